/-
  The conditions of the functions, all of them. Conditions: none; printed by a program of our own.
-/
import Derived.Test.YtjljnieafhdkgaaGreatDoorNumJA
import Derived.Test.YtjljnieafhdkgaaGreatDoorNumJB
import Derived.Test.YtjljnieafhdkgaaGreatDoorNumJC
import Derived.Test.YtjljnieafhdkgaaGreatDoorNumJD
import Derived.Test.YtjljnieafhdkgaaGreatDoorNumJE
import Derived.Test.YtjljnieafhdkgaaGreatDoorNumJK
import Derived.Test.YtjljnieafhdkgaaGreatDoorNumJG
import Derived.Test.YtjljnieafhdkgaaGreatDoorNumJH
import Derived.Test.YtjljnieafhdkgaaGreatDoorNumJI
