/-
 All conditions of the chain. Conditions: none.
-/
import Derived.Test.YtccbjhfdfbaekaaGreatRunM
import Derived.Test.YtccbjhfdfbaekaaGreatRunX
