/-
 The conditions of the functions, all of them. Conditions: none; printed by a program of our own.
-/
import Derived.Test.YtbgbcaamipknmaaGreatNumJA
import Derived.Test.YtbgbcaamipknmaaGreatNumJB
import Derived.Test.YtbgbcaamipknmaaGreatNumJC
import Derived.Test.YtbgbcaamipknmaaGreatNumJD
import Derived.Test.YtbgbcaamipknmaaGreatNumJE
import Derived.Test.YtbgbcaamipknmaaGreatNumJK
import Derived.Test.YtbgbcaamipknmaaGreatNumJG
import Derived.Test.YtbgbcaamipknmaaGreatNumJH
