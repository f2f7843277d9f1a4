/-
  The conditions of the functions. Conditions: none; printed by a program of our own.
-/
import Derived.Test.YtmehepdbfdnbjaaGreatLrnSpec
set_option maxRecDepth 20000
namespace Go.Sx.N
open IntKind (wrap)
def V_TLearns:Prop:=
∀ y0:ByteArray,∀ b1:Bool,∀ s2:Sl,Ranged s2 [some .i64,some .i64,some .i64,none,none,none,none]->∀ x3:Int,Rng .i64 x3->∀ x4:Int,Rng .i64 x4->∀ x5:Int,Rng .i64 x5->∀ b6:Bool,∀ s7:Sl,R16 s7->∀ b8:Bool,∀ s9:Sl,R16 s9->p_TLearns y0 (dB b1) s2 x3 x4 x5 (dB b6) s7 (dB b8) s9-> p_Few y0 (dB b1) s2/\∀ b10:Bool,q_Few y0 (dB b1) s2 (dB b10)->(¬b10=true->p_awake/\∀ b11:Bool,q_awake  (dB b11)->q_TLearns y0 (dB b1) s2 x3 x4 x5 (dB b6) s7 (dB b8) s9 (dB b11)/\True)/\(¬¬ (b10=true)->p_kLimbs (dB b6) s7 (dB b8) s9/\∀ x11:Int,Rng .i64 x11-> q_kLimbs (dB b6) s7 (dB b8) s9 x11->(x11>600->p_awake/\∀ b12:Bool,q_awake  (dB b12)->q_TLearns y0 (dB b1) s2 x3 x4 x5 (dB b6) s7 (dB b8) s9 (dB b12)/\True)/\(¬x11>600->p_learns y0 (dB b1) s2 x3 x4 x5 (dB b6) s7 (dB b8) s9/\∀ b12:Bool,q_learns y0 (dB b1) s2 x3 x4 x5 (dB b6) s7 (dB b8) s9 (dB b12)->
(b12=true->p_awake/\∀ b13:Bool,q_awake  (dB b13)->q_TLearns y0 (dB b1) s2 x3 x4 x5 (dB b6) s7 (dB b8) s9 (dB b13)/\True)/\(¬b12=true->q_TLearns y0 (dB b1) s2 x3 x4 x5 (dB b6) s7 (dB b8) s9 dF/\True)))
end Go.Sx.N
