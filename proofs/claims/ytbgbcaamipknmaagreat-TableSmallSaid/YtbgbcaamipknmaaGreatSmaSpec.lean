/-
 What the closed statement about small tables is to answer. Conditions: none.
-/
import Derived.Test.YtbgbcaamipknmaaGreatLrnSpec
import Derived.Test.YtbgbcaamipknmaaGreatViwSpec
set_option linter.unusedVariables false
set_option linter.unusedSimpArgs false
namespace Go.Sx.N
def p_TSmall : Prop := True
def q_TSmall (r : Bool) : Prop := r = true
end Go.Sx.N
