/-
  The conditions of the functions, all of them. Conditions: none; printed by a program of our own.
-/
import Derived.Test.YtehofgnfaiefkaaGreatNumJA
import Derived.Test.YtehofgnfaiefkaaGreatNumJB
import Derived.Test.YtehofgnfaiefkaaGreatNumJC
import Derived.Test.YtehofgnfaiefkaaGreatNumJD
import Derived.Test.YtehofgnfaiefkaaGreatNumJE
import Derived.Test.YtehofgnfaiefkaaGreatNumJK
import Derived.Test.YtehofgnfaiefkaaGreatNumJG
import Derived.Test.YtehofgnfaiefkaaGreatNumJH
