/-
  The conditions of the functions. Conditions: none; printed by a program of our own.
-/
import Derived.Test.YtmehepdbfdnbjaaGreatViwSpec
set_option maxRecDepth 20000
namespace Go.Sx.N
open IntKind (wrap)
def V_TViews:Prop:=
∀ y0:ByteArray,∀ b1:Bool,∀ s2:Sl,Ranged s2 [some .i64,some .i64,some .i64,none,none,none,none]->∀ x3:Int,Rng .i64 x3->p_TViews y0 (dB b1) s2 x3->p_Few y0 (dB b1) s2/\∀ b4:Bool,q_Few y0 (dB b1) s2 (dB b4)->(¬b4=true->p_awake/\∀ b5:Bool,q_awake  (dB b5)-> q_TViews y0 (dB b1) s2 x3 (dB b5)/\True)/\(¬¬ (b4=true)->p_views y0 (dB b1) s2 x3/\∀ b5:Bool,q_views y0 (dB b1) s2 x3 (dB b5)->(b5=true->p_awake/\∀ b6:Bool,q_awake  (dB b6)->q_TViews y0 (dB b1) s2 x3 (dB b6)/\True)/\(¬b5=true->q_TViews y0 (dB b1) s2 x3 dF/\True))
end Go.Sx.N
