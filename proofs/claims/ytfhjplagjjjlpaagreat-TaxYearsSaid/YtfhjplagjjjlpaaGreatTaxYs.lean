/-
 What the law about scales of years is to answer. Conditions: none.
-/
import Derived.Test.YtfhjplagjjjlpaaGreatTaxSpec
set_option linter.unusedVariables false
set_option linter.unusedSimpArgs false
namespace Go.Sx.N
def p_overA (_s : Sl) (i : Int) : Prop := i = 0
def q_overA (_s : Sl) (_i : Int) : Prop := True
def p_TYears (_y : Sl) (_year : Int) : Prop := True
def q_TYears (_y : Sl) (_year : Int) (r : Bool) : Prop := r = true
end Go.Sx.N
