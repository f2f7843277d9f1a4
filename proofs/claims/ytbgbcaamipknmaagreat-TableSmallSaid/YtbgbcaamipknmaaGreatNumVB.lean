/-
  The conditions of the functions. Conditions: none; printed by a program of our own.
-/
import Derived.Test.YtbgbcaamipknmaaGreatNumBase
set_option maxRecDepth 20000
namespace Go.Sx.N
open IntKind (wrap)
def V_Clone16:Prop:=
∀s0:Sl,R16 s0->p_Clone16 s0->∀b1:Bool,(b1=true->s0.len≤0->q_Clone16 s0 Sl.nil/\True)/\(¬b1=true->(((Sl.len (Sl.lit []))+s0.len)*2)≤140737488355328/\q_Clone16 s0 (Sl.app (Sl.lit []) s0)/\True)
def V_wValid:Prop:=
∀b0:Bool,∀s1:Sl,R16 s1->p_wValid (dB b0) s1->Small s1->(s1.len=0->q_wValid (dB b0) s1 (decide (¬(b0=true)))/\True)/\(¬s1.len=0->(s1.len≤1024->Rng .i64 (s1.len-1)/\(0:Int)≤(s1.len-1)/\(s1.len-1)<s1.len/\(Rng .u16 (s1.int (s1.len-1) 0)->q_wValid (dB b0) s1 (decide ((s1.int (s1.len-1) 0)≠0))/\True))/\(¬s1.len≤1024-> q_wValid (dB b0) s1 dF/\True))
def V_wAllValid:Prop:=
∀s0:Sl,Ranged s0 [none,none]->p_wAllValid s0->Small s0->∃(J1:Int->Prop)(M1:Int->Nat),J1 0/\∀x2:Int,Rng .i64 x2->J1 x2->(x2<s0.len->(0:Int)≤x2/\x2<s0.len/\(R16 (s0.sub x2 1)->p_wValid (decide (s0.bool x2 0=true)) (s0.sub x2 1)/\∀b3:Bool,q_wValid (decide (s0.bool x2 0=true)) (s0.sub x2 1) (dB b3)->
(¬b3=true->q_wAllValid s0 dF/\True)/\(¬¬(b3=true)->Rng .i64 (x2+1)/\J1 (x2+1)/\M1 (x2+1)<M1 x2)))/\(¬x2<s0.len->q_wAllValid s0 dT/\True)
def V_wGcd:Prop:=
∀b0:Bool,∀s1:Sl,R16 s1->∀b2:Bool,∀s3:Sl,R16 s3->p_wGcd (dB b0) s1 (dB b2) s3->p_wAllValid (Sl.lit [[(.bool (dB b0)),s1.d],[(.bool (dB b2)),s3.d]])/\∀b4:Bool,q_wAllValid (Sl.lit [[(.bool (dB b0)),s1.d],[(.bool (dB b2)),s3.d]]) (dB b4)->(¬b4=true-> q_wGcd (dB b0) s1 (dB b2) s3 dF Sl.nil 2/\True)/\(¬¬(b4=true)->p_pack s1/\∀s5:Sl,R32 s5->q_pack s1 s5->p_pack s3/\∀s6:Sl,R32 s6->q_pack s3 s6->p_commonDivisor s5 s6/\∀s7:Sl,R32 s7->q_commonDivisor s5 s6 s7->p_unpack dF s7/\∀b8:Bool,∀s9:Sl,R16 s9-> q_unpack dF s7 (dB b8) s9->q_wGcd (dB b0) s1 (dB b2) s3 (dB b8) s9 0/\True)
end Go.Sx.N
