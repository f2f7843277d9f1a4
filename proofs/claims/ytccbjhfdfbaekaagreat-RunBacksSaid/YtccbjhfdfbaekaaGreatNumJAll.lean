/-
 The conditions of the functions, all of them. Conditions: none; printed by a program of our own.
-/
import Derived.Test.YtccbjhfdfbaekaaGreatNumJA
import Derived.Test.YtccbjhfdfbaekaaGreatNumJB
import Derived.Test.YtccbjhfdfbaekaaGreatNumJC
import Derived.Test.YtccbjhfdfbaekaaGreatNumJH
import Derived.Test.YtccbjhfdfbaekaaGreatNumJG
import Derived.Test.YtccbjhfdfbaekaaGreatNumJI
import Derived.Test.YtccbjhfdfbaekaaGreatNumJX
import Derived.Test.YtccbjhfdfbaekaaGreatNumJY
import Derived.Test.YtccbjhfdfbaekaaGreatNumJZ
import Derived.Test.YtccbjhfdfbaekaaGreatNumJQ
