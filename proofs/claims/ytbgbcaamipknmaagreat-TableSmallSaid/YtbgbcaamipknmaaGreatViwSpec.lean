/-
 What the functions about viewing a table while others look are to answer. Conditions: none.
-/
import Derived.Test.YtbgbcaamipknmaaGreatMemSpec
set_option linter.unusedVariables false
set_option linter.unusedSimpArgs false
namespace Go.Sx.N
def p_rView (name : ByteArray) (_two : Bool) (_s : Sl) (_known : Int) : Prop := okN name
def q_rView (name : ByteArray) (two : Bool) (s : Sl) (known : Int) (name' : ByteArray) (two' : Bool) (s' : Sl) (e : Int) : Prop := q_View name two s known name' two' s' e
def p_views (name : ByteArray) (_two : Bool) (s : Sl) (_known : Int) : Prop := okN name /\ tabB s
def q_views (_name : ByteArray) (_two : Bool) (_s : Sl) (_known : Int) (r : Bool) : Prop := r = true
end Go.Sx.N
