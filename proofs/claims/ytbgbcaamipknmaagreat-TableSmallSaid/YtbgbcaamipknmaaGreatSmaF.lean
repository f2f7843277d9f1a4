/-
 Imports alone. Conditions: none.
-/
import Derived.Test.YtbgbcaamipknmaaGreatLrnC
import Derived.Test.YtbgbcaamipknmaaGreatViwG
set_option linter.unusedVariables false
set_option linter.unusedSimpArgs false
namespace Go.Sx.N
end Go.Sx.N
