/-
 The conditions of the functions, all of them. Conditions: none; printed by a program of our own.
-/
import Derived.Test.YtfhjplagjjjlpaaGreatNumJA
import Derived.Test.YtfhjplagjjjlpaaGreatNumJB
import Derived.Test.YtfhjplagjjjlpaaGreatNumJC
import Derived.Test.YtfhjplagjjjlpaaGreatNumJD
import Derived.Test.YtfhjplagjjjlpaaGreatNumJE
import Derived.Test.YtfhjplagjjjlpaaGreatNumJK
import Derived.Test.YtfhjplagjjjlpaaGreatNumJT
import Derived.Test.YtfhjplagjjjlpaaGreatNumJR
import Derived.Test.YtfhjplagjjjlpaaGreatNumJL
