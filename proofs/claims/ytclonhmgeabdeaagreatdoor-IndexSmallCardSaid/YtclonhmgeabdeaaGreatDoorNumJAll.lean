/-
 The conditions of the functions, all of them. Conditions: none; printed by a program of our own.
-/
import Derived.Test.YtclonhmgeabdeaaGreatDoorNumJA
import Derived.Test.YtclonhmgeabdeaaGreatDoorNumJB
import Derived.Test.YtclonhmgeabdeaaGreatDoorNumJC
import Derived.Test.YtclonhmgeabdeaaGreatDoorNumJD
import Derived.Test.YtclonhmgeabdeaaGreatDoorNumJE
import Derived.Test.YtclonhmgeabdeaaGreatDoorNumJK
import Derived.Test.YtclonhmgeabdeaaGreatDoorNumJG
import Derived.Test.YtclonhmgeabdeaaGreatDoorNumJH
import Derived.Test.YtclonhmgeabdeaaGreatDoorNumJI
import Derived.Test.YtclonhmgeabdeaaGreatDoorNumJM
import Derived.Test.YtclonhmgeabdeaaGreatDoorNumJN
