/-
  The conditions of the functions. Conditions: none; printed by a program of our own.
-/
import Derived.Test.YtfhjplagjjjlpaaGreatTaxYs
set_option maxRecDepth 20000
namespace Go.Sx.N
open IntKind (wrap)
def V_TYears_0 (s0:Sl)(x1:Int)(s2:Sl)(J9:Int->Prop)(M9:Int->Nat)(x10:Int):Prop:= p_same (s0.sub x10 1) (s2.sub x10 1)/\∀ b100:Bool,q_same (s0.sub x10 1) (s2.sub x10 1) (dB b100)->(¬b100=true->q_TYears s0 x1 dF/\True)/\(¬¬ (b100=true)->Rng .i64 (x10+1)/\J9 (x10+1)/\M9 (x10+1)<M9 x10)
def V_TYears:Prop:=
∀ s0:Sl,Ranged s0 [some .i64,none]->∀ x1:Int,Rng .i64 x1->p_TYears s0 x1->p_scales s0/\∀ s2:Sl,Ranged s2 [some .i64,none]->∀ b3:Bool,q_scales s0 s2 (dB b3)->(¬b3=true->p_awake/\∀ b4:Bool,q_awake  (dB b4)->q_TYears s0 x1 (dB b4)/\True)/\(¬¬ (b3=true)-> p_tScale s0 x1/\∀ s4:Sl,∀ x5:Int,Rng .i64 x5->q_tScale s0 x1 s4 x5->p_xScale s2 x1/\∀ s6:Sl,Ranged s6 [some .i64,none,none,none,none]->∀ x7:Int,Rng .i64 x7->q_xScale s2 x1 s6 x7->(x5≠x7->q_TYears s0 x1 dF/\True)/\(¬x5≠x7->p_same s4 s6/\∀ b8:Bool,q_same s4 s6 (dB b8)->
(¬b8=true->q_TYears s0 x1 dF/\True)/\(¬¬ (b8=true)->p_overA s4 0/\∃(J9:Int->Prop)(M9:Int->Nat),J9 0/\∀ x10:Int,Rng .i64 x10->J9 x10->Small s0->(x10<s0.len->(0 : Int)≤x10/\x10<s0.len/\(0 : Int)≤x10/\x10<s2.len/\(Ranged (s0.sub x10 1) [some .i64,none,none,none,none]-> Ranged (s2.sub x10 1) [some .i64,none,none,none,none]->V_TYears_0 s0 x1 s2 J9 M9 x10)/\(Ranged (s2.sub x10 1) [some .i64,none,none,none,none]->Ranged (s0.sub x10 1) [some .i64,none,none,none,none]->V_TYears_0 s0 x1 s2 J9 M9 x10))/\(¬x10<s0.len->p_awake/\∀ b11:Bool,q_awake  (dB b11)-> q_TYears s0 x1 (dB b11)/\True))))
end Go.Sx.N
