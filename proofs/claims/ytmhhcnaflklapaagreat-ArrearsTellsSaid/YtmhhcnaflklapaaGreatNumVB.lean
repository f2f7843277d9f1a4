/-
  The conditions of the functions. Conditions: none; printed by a program of our own.
-/
import Derived.Test.YtmhhcnaflklapaaGreatNumBase
set_option maxRecDepth 20000
namespace Go.Sx.N
open IntKind (wrap)
def V_plus:Prop:=
∀ s0:Sl,R32 s0->∀ s1:Sl,R32 s1->p_plus s0 s1->∃ J2:Sl->Sl->Prop,(Small s0->Small s1->(s0.len<s1.len->J2 s1 s0)/\(¬s0.len<s1.len->J2 s0 s1))/\∀ s3:Sl,R32 s3->∀ s4:Sl,R32 s4->J2 s3 s4->Small s3->Rng .i64 (s3.len+1)/\(0 : Int)≤0/\(0 : Int)≤(s3.len+1)/\((s3.len+1)*4)≤140737488355328/\(Small s3->
∃(J5:Int->Sl->Int->Prop)(M5:Int->Sl->Int->Nat),J5 0 (Sl.rep 0 [(.int 0)]) 0/\∀ x6:Int,Rng .i64 x6->∀ s7:Sl,R32 s7->∀ x8:Int,Rng .u64 x8->J5 x6 s7 x8->(x6<s3.len->(0 : Int)≤x6/\x6<s3.len/\(Rng .u32 (s3.int x6 0)->∃ J9:Int->Prop,(Small s4->(x6<s4.len->(0 : Int)≤x6/\x6<s4.len/\(Rng .u32 (s4.int x6 0)->
J9 (wrap .u64 ((s3.int x6 0)+(s4.int x6 0)))))/\(¬x6<s4.len->J9 (s3.int x6 0)))/\∀ x10:Int,Rng .u64 x10->J9 x10->(((s7.len+(Sl.len (Sl.lit [[(.int (wrap .u32 (wrap .u64 (x10+x8))))]])))*4)≤140737488355328/\(0 : Int)≤32/\Rng .u64 (shr .u64 (wrap .u64 (x10+x8)) 32)/\Rng .i64 (x6+1)/\J5 (x6+1) (s7.app (Sl.lit [[(.int (wrap .u32 (wrap .u64 (x10+x8))))]])) (shr .u64 (wrap .u64 (x10+x8)) 32)/\M5 (x6+1) (s7.app (Sl.lit [[(.int (wrap .u32 (wrap .u64 (x10+x8))))]])) (shr .u64 (wrap .u64 (x10+x8)) 32)<M5 x6 s7 x8)/\((s7.len+(Sl.len (Sl.lit [[(.int (wrap .u32 (wrap .u64 (x10+x8))))]])))*4)≤140737488355328/\(0 : Int)≤32/\Rng .u64 (shr .u64 (wrap .u64 (x10+x8)) 32)/\Rng .i64 (x6+1)/\J5 (x6+1) (s7.app (Sl.lit [[(.int (wrap .u32 (wrap .u64 (x10+x8))))]])) (shr .u64 (wrap .u64 (x10+x8)) 32)/\M5 (x6+1) (s7.app (Sl.lit [[(.int (wrap .u32 (wrap .u64 (x10+x8))))]])) (shr .u64 (wrap .u64 (x10+x8)) 32)<M5 x6 s7 x8))/\(¬x6<s3.len->
(((s7.len+(Sl.len (Sl.lit [[(.int (wrap .u32 (wrap .u64 (0+x8))))]])))*4)≤140737488355328/\(0 : Int)≤32/\Rng .u64 (shr .u64 (wrap .u64 (0+x8)) 32)/\p_trim (s7.app (Sl.lit [[(.int (wrap .u32 (wrap .u64 (0+x8))))]]))/\∀ s9:Sl,R32 s9->q_trim (s7.app (Sl.lit [[(.int (wrap .u32 (wrap .u64 (0+x8))))]])) s9->
q_plus s0 s1 s9/\True)/\((s7.len+(Sl.len (Sl.lit [[(.int (wrap .u32 (wrap .u64 (0+x8))))]])))*4)≤140737488355328/\(0 : Int)≤32/\Rng .u64 (shr .u64 (wrap .u64 (0+x8)) 32)/\p_trim (s7.app (Sl.lit [[(.int (wrap .u32 (wrap .u64 (0+x8))))]]))/\∀ s9:Sl,R32 s9->
q_trim (s7.app (Sl.lit [[(.int (wrap .u32 (wrap .u64 (0+x8))))]])) s9->q_plus s0 s1 s9/\True))
def V_minus:Prop:=
∀ s0:Sl,R32 s0->∀ s1:Sl,R32 s1->p_minus s0 s1->p_Clone32 s0/\∀ s2:Sl,R32 s2->q_Clone32 s0 s2->Small s2->∃(J3:Int->Int->Sl->Prop)(M3:Int->Int->Sl->Nat),J3 0 0 s2/\∀ x4:Int,Rng .u32 x4->∀ x5:Int,Rng .i64 x5->∀ s6:Sl,R32 s6->J3 x4 x5 s6->(x5<s2.len->∃ J7:Int->
Prop,(Small s1->(x5<s1.len->(0 : Int)≤x5/\x5<s1.len/\(Rng .u32 (s1.int x5 0)->J7 (s1.int x5 0)))/\(¬x5<s1.len->J7 0))/\∀ x8:Int,Rng .u32 x8->J7 x8->(0 : Int)≤x5/\x5<s6.len/\(Rng .u32 (s6.int x5 0)->p_Sub32 (s6.int x5 0) x8 x4/\∀ x9:Int,Rng .u32 x9->∀ x10:Int,Rng .u32 x10->
q_Sub32 (s6.int x5 0) x8 x4 x9 x10->(0 : Int)≤x5/\x5<s6.len/\Rng .i64 (x5+1)/\J3 x10 (x5+1) (s6.upd x5 0 [(.int x9)])/\M3 x10 (x5+1) (s6.upd x5 0 [(.int x9)])<M3 x4 x5 s6))/\(¬x5<s2.len->p_trim s6/\∀ s7:Sl,R32 s7->q_trim s6 s7->q_minus s0 s1 s7/\True)
def V_times:Prop:=
∀ s0:Sl,R32 s0->∀ s1:Sl,R32 s1->p_times s0 s1->Small s0->Small s1->Rng .i64 (s0.len+s1.len)/\(0 : Int)≤(s0.len+s1.len)/\(s0.len+s1.len)≤(s0.len+s1.len)/\((s0.len+s1.len)*4)≤140737488355328/\(Small s0->∃(J2:Int->Sl->Prop)(M2:Int->Sl->Nat),J2 0 (Sl.rep (s0.len+s1.len) [(.int 0)])/\∀ x3:Int,Rng .i64 x3->
∀ s4:Sl,R32 s4->J2 x3 s4->(x3<s0.len->(0 : Int)≤x3/\x3<s0.len/\(Rng .u32 (s0.int x3 0)->Small s1->∃(J5:Int->Int->Sl->Prop)(M5:Int->Int->Sl->Nat),J5 0 0 s4/\∀ x6:Int,Rng .u64 x6->∀ x7:Int,Rng .i64 x7->∀ s8:Sl,R32 s8->J5 x6 x7 s8->(x7<s1.len->(0 : Int)≤x7/\x7<s1.len/\(Rng .u32 (s1.int x7 0)->
Rng .i64 (x3+x7)/\(0 : Int)≤(x3+x7)/\(x3+x7)<s8.len/\(Rng .u32 (s8.int (x3+x7) 0)->Rng .i64 (x3+x7)/\(0 : Int)≤(x3+x7)/\(x3+x7)<s8.len/\(0 : Int)≤32/\Rng .u64 (shr .u64 (wrap .u64 ((wrap .u64 ((wrap .u64 ((s0.int x3 0)*(s1.int x7 0)))+(s8.int (x3+x7) 0)))+x6)) 32)/\Rng .i64 (x7+1)/\J5 (shr .u64 (wrap .u64 ((wrap .u64 ((wrap .u64 ((s0.int x3 0)*(s1.int x7 0)))+(s8.int (x3+x7) 0)))+x6)) 32) (x7+1) (s8.upd (x3+x7) 0 [(.int (wrap .u32 (wrap .u64 ((wrap .u64 ((wrap .u64 ((s0.int x3 0)*(s1.int x7 0)))+(s8.int (x3+x7) 0)))+x6))))])/\M5 (shr .u64 (wrap .u64 ((wrap .u64 ((wrap .u64 ((s0.int x3 0)*(s1.int x7 0)))+(s8.int (x3+x7) 0)))+x6)) 32) (x7+1) (s8.upd (x3+x7) 0 [(.int (wrap .u32 (wrap .u64 ((wrap .u64 ((wrap .u64 ((s0.int x3 0)*(s1.int x7 0)))+(s8.int (x3+x7) 0)))+x6))))])<M5 x6 x7 s8)))/\(¬x7<s1.len->
Small s1->Rng .i64 (x3+s1.len)/\(0 : Int)≤(x3+s1.len)/\(x3+s1.len)<s8.len/\Rng .i64 (x3+1)/\J2 (x3+1) (s8.upd (x3+s1.len) 0 [(.int (wrap .u32 x6))])/\M2 (x3+1) (s8.upd (x3+s1.len) 0 [(.int (wrap .u32 x6))])<M2 x3 s4)))/\(¬x3<s0.len->p_trim s4/\∀ s5:Sl,R32 s5->
q_trim s4 s5->q_times s0 s1 s5/\True))
def V_Clone16:Prop:=
∀ s0:Sl,R16 s0->p_Clone16 s0->∀ b1:Bool,(b1=true->s0.len≤0->q_Clone16 s0 Sl.nil/\True)/\(¬b1=true->(((Sl.len (Sl.lit []))+s0.len)*2)≤140737488355328/\q_Clone16 s0 (Sl.app (Sl.lit []) s0)/\True)
def V_wValid:Prop:=
∀ b0:Bool,∀ s1:Sl,R16 s1->p_wValid (dB b0) s1->Small s1->(s1.len=0->q_wValid (dB b0) s1 (decide (¬ (b0=true)))/\True)/\(¬s1.len=0->(s1.len≤1024->Rng .i64 (s1.len - 1)/\(0 : Int)≤(s1.len - 1)/\(s1.len - 1)<s1.len/\(Rng .u16 (s1.int (s1.len - 1) 0)->q_wValid (dB b0) s1 (decide ((s1.int (s1.len - 1) 0)≠0))/\True))/\(¬s1.len≤1024->
q_wValid (dB b0) s1 dF/\True))
def V_wAllValid:Prop:=
∀ s0:Sl,Ranged s0 [none,none]->p_wAllValid s0->Small s0->∃(J1:Int->Prop)(M1:Int->Nat),J1 0/\∀ x2:Int,Rng .i64 x2->J1 x2->(x2<s0.len->(0 : Int)≤x2/\x2<s0.len/\(R16 (s0.sub x2 1)->p_wValid (decide (s0.bool x2 0=true)) (s0.sub x2 1)/\∀ b3:Bool,q_wValid (decide (s0.bool x2 0=true)) (s0.sub x2 1) (dB b3)->
(¬b3=true->q_wAllValid s0 dF/\True)/\(¬¬ (b3=true)->Rng .i64 (x2+1)/\J1 (x2+1)/\M1 (x2+1)<M1 x2)))/\(¬x2<s0.len->q_wAllValid s0 dT/\True)
def V_wFromInt:Prop:=
∀ x0:Int,Rng .i64 x0->p_wFromInt x0->∃ J1:Int->Prop,((x0<0->J1 (wrap .u64 (0 - (wrap .u64 x0))))/\(¬x0<0->J1 (wrap .u64 x0)))/\∀ x2:Int,Rng .u64 x2->J1 x2->∃(J3:Int->Int->Int->Int->Int->Int->Prop)(M3:Int->Int->Int->Int->Int->Int->Nat),J3 0 0 0 0 0 0/\∀ x4:Int,Rng .i64 x4->
∀ x5:Int,Rng .i64 x5->∀ x6:Int,Rng .u16 x6->∀ x7:Int,Rng .u16 x7->∀ x8:Int,Rng .u16 x8->∀ x9:Int,Rng .u16 x9->J3 x4 x5 x6 x7 x8 x9->(x5<4->∃ J10:Int->Int->Int->Int->Int->Prop,(∃ J11:Int->Int->Int->Int->Prop,(Rng .i64 (16*x5)/\(0 : Int)≤(16*x5)/\Rng .u64 (shr .u64 x2 (16*x5))/\(0 : Int)≤x5/\x5<4/\(x5=0->
J11 (wrap .u16 (shr .u64 x2 (16*x5))) x7 x8 x9)/\(¬x5=0->(x5=1->J11 x6 (wrap .u16 (shr .u64 x2 (16*x5))) x8 x9)/\(¬x5=1->(x5=2->J11 x6 x7 (wrap .u16 (shr .u64 x2 (16*x5))) x9)/\(¬x5=2->J11 x6 x7 x8 (wrap .u16 (shr .u64 x2 (16*x5)))))))/\∀ x12:Int,Rng .u16 x12->
∀ x13:Int,Rng .u16 x13->∀ x14:Int,Rng .u16 x14->∀ x15:Int,Rng .u16 x15->J11 x12 x13 x14 x15->(0 : Int)≤x5/\x5<4/\(x5=0->(x12≠0->Rng .i64 (x5+1)/\J10 (x5+1) x12 x13 x14 x15)/\(¬x12≠0->J10 x4 x12 x13 x14 x15))/\(¬x5=0->(x5=1->(x13≠0->Rng .i64 (x5+1)/\J10 (x5+1) x12 x13 x14 x15)/\(¬x13≠0->
J10 x4 x12 x13 x14 x15))/\(¬x5=1->(x5=2->(x14≠0->Rng .i64 (x5+1)/\J10 (x5+1) x12 x13 x14 x15)/\(¬x14≠0->J10 x4 x12 x13 x14 x15))/\(¬x5=2->(x15≠0->Rng .i64 (x5+1)/\J10 (x5+1) x12 x13 x14 x15)/\(¬x15≠0->J10 x4 x12 x13 x14 x15)))))/\∀ x11:Int,Rng .i64 x11->
∀ x12:Int,Rng .u16 x12->∀ x13:Int,Rng .u16 x13->∀ x14:Int,Rng .u16 x14->∀ x15:Int,Rng .u16 x15->J10 x11 x12 x13 x14 x15->Rng .i64 (x5+1)/\J3 x11 (x5+1) x12 x13 x14 x15/\M3 x11 (x5+1) x12 x13 x14 x15<M3 x4 x5 x6 x7 x8 x9)/\(¬x5<4->(0 : Int)≤0/\(0 : Int)≤x4/\x4≤4/\p_Clone16 (Sl.part (Sl.lit [[(.int x6)],[(.int x7)],[(.int x8)],[(.int x9)]]) 0 x4)/\∀ s10:Sl,R16 s10->
q_Clone16 (Sl.part (Sl.lit [[(.int x6)],[(.int x7)],[(.int x8)],[(.int x9)]]) 0 x4) s10->q_wFromInt x0 (decide (x0<0)) s10/\True)
def V_wInt:Prop:=
∀ b0:Bool,∀ s1:Sl,R16 s1->p_wInt (dB b0) s1->p_wValid (dB b0) s1/\∀ b2:Bool,q_wValid (dB b0) s1 (dB b2)->(¬b2=true->q_wInt (dB b0) s1 0 2/\True)/\(¬¬ (b2=true)->Small s1->(s1.len>4->q_wInt (dB b0) s1 0 3/\True)/\(¬s1.len>4->Small s1->Rng .i64 (s1.len - 1)/\∃(J3:Int->
Int->Prop)(M3:Int->Int->Nat),J3 (s1.len - 1) 0/\∀ x4:Int,Rng .i64 x4->∀ x5:Int,Rng .u64 x5->J3 x4 x5->(x4≥0->(0 : Int)≤x4/\x4<s1.len/\(Rng .u16 (s1.int x4 0)->(0 : Int)≤16/\Rng .i64 (x4 - 1)/\J3 (x4 - 1) (wrap .u64 (bor .u64 (wrap .u64 (shl .u64 x5 16)) (s1.int x4 0)))/\M3 (x4 - 1) (wrap .u64 (bor .u64 (wrap .u64 (shl .u64 x5 16)) (s1.int x4 0)))<M3 x4 x5))/\(¬x4≥0->
(b0=true->(x5>9223372036854775808->q_wInt (dB b0) s1 0 3/\True)/\(¬x5>9223372036854775808->q_wInt (dB b0) s1 (wrap .i64 (wrap .u64 (0 - x5))) 0/\True))/\(¬b0=true->(x5≥9223372036854775808->q_wInt (dB b0) s1 0 3/\True)/\(¬x5≥9223372036854775808->q_wInt (dB b0) s1 (wrap .i64 x5) 0/\True)))))
def V_result:Prop:=
∀ b0:Bool,∀ s1:Sl,R32 s1->p_result (dB b0) s1->p_unpack (dB b0) s1/\∀ b2:Bool,∀ s3:Sl,R16 s3->q_unpack (dB b0) s1 (dB b2) s3->Small s3->(s3.len>1024->q_result (dB b0) s1 dF Sl.nil 3/\True)/\(¬s3.len>1024->q_result (dB b0) s1 (dB b2) s3 0/\True)
def V_sum:Prop:=
∀ b0:Bool,∀ s1:Sl,R32 s1->∀ b2:Bool,∀ s3:Sl,R32 s3->p_sum (dB b0) s1 (dB b2) s3->(((b0=true) ↔ (b2=true))->p_plus s1 s3/\∀ s4:Sl,R32 s4->q_plus s1 s3 s4->p_result (dB b0) s4/\∀ b5:Bool,∀ s6:Sl,R16 s6->∀ x7:Int,Rng .i64 x7->q_result (dB b0) s4 (dB b5) s6 x7->
q_sum (dB b0) s1 (dB b2) s3 (dB b5) s6 x7/\True)/\(¬ ((b0=true) ↔ (b2=true))->p_compare s1 s3/\∀ x4:Int,Rng .i64 x4->q_compare s1 s3 x4->(x4≥0->p_minus s1 s3/\∀ s5:Sl,R32 s5->q_minus s1 s3 s5->p_result (dB b0) s5/\∀ b6:Bool,∀ s7:Sl,R16 s7->∀ x8:Int,Rng .i64 x8->
q_result (dB b0) s5 (dB b6) s7 x8->q_sum (dB b0) s1 (dB b2) s3 (dB b6) s7 x8/\True)/\(¬x4≥0->p_minus s3 s1/\∀ s5:Sl,R32 s5->q_minus s3 s1 s5->p_result (dB b2) s5/\∀ b6:Bool,∀ s7:Sl,R16 s7->∀ x8:Int,Rng .i64 x8->q_result (dB b2) s5 (dB b6) s7 x8->q_sum (dB b0) s1 (dB b2) s3 (dB b6) s7 x8/\True))
def V_wAdd:Prop:=
∀ b0:Bool,∀ s1:Sl,R16 s1->∀ b2:Bool,∀ s3:Sl,R16 s3->p_wAdd (dB b0) s1 (dB b2) s3->p_wAllValid (Sl.lit [[(.bool (dB b0)),s1.d],[(.bool (dB b2)),s3.d]])/\∀ b4:Bool,q_wAllValid (Sl.lit [[(.bool (dB b0)),s1.d],[(.bool (dB b2)),s3.d]]) (dB b4)->(¬b4=true->
q_wAdd (dB b0) s1 (dB b2) s3 dF Sl.nil 2/\True)/\(¬¬ (b4=true)->p_pack s1/\∀ s5:Sl,R32 s5->q_pack s1 s5->p_pack s3/\∀ s6:Sl,R32 s6->q_pack s3 s6->p_sum (dB b0) s5 (dB b2) s6/\∀ b7:Bool,∀ s8:Sl,R16 s8->∀ x9:Int,Rng .i64 x9->q_sum (dB b0) s5 (dB b2) s6 (dB b7) s8 x9->
q_wAdd (dB b0) s1 (dB b2) s3 (dB b7) s8 x9/\True)
def V_wMul:Prop:=
∀ b0:Bool,∀ s1:Sl,R16 s1->∀ b2:Bool,∀ s3:Sl,R16 s3->p_wMul (dB b0) s1 (dB b2) s3->p_wAllValid (Sl.lit [[(.bool (dB b0)),s1.d],[(.bool (dB b2)),s3.d]])/\∀ b4:Bool,q_wAllValid (Sl.lit [[(.bool (dB b0)),s1.d],[(.bool (dB b2)),s3.d]]) (dB b4)->(¬b4=true->
q_wMul (dB b0) s1 (dB b2) s3 dF Sl.nil 2/\True)/\(¬¬ (b4=true)->p_pack s1/\∀ s5:Sl,R32 s5->q_pack s1 s5->p_pack s3/\∀ s6:Sl,R32 s6->q_pack s3 s6->p_times s5 s6/\∀ s7:Sl,R32 s7->q_times s5 s6 s7->p_result (decide (¬ ((b0=true) ↔ (b2=true)))) s7/\∀ b8:Bool,∀ s9:Sl,R16 s9->
∀ x10:Int,Rng .i64 x10->q_result (decide (¬ ((b0=true) ↔ (b2=true)))) s7 (dB b8) s9 x10->q_wMul (dB b0) s1 (dB b2) s3 (dB b8) s9 x10/\True)
def V_wDivMod:Prop:=
∀ b0:Bool,∀ s1:Sl,R16 s1->∀ b2:Bool,∀ s3:Sl,R16 s3->p_wDivMod (dB b0) s1 (dB b2) s3->p_wAllValid (Sl.lit [[(.bool (dB b0)),s1.d],[(.bool (dB b2)),s3.d]])/\∀ b4:Bool,q_wAllValid (Sl.lit [[(.bool (dB b0)),s1.d],[(.bool (dB b2)),s3.d]]) (dB b4)->(¬b4=true->
q_wDivMod (dB b0) s1 (dB b2) s3 dF Sl.nil dF Sl.nil 2/\True)/\(¬¬ (b4=true)->Small s3->(s3.len=0->q_wDivMod (dB b0) s1 (dB b2) s3 dF Sl.nil dF Sl.nil 11/\True)/\(¬s3.len=0->p_pack s3/\∀ s5:Sl,R32 s5->q_pack s3 s5->p_pack s1/\∀ s6:Sl,R32 s6->q_pack s1 s6->
p_divide s6 s5/\∀ s7:Sl,R32 s7->∀ s8:Sl,R32 s8->q_divide s6 s5 s7 s8->(¬ ((b0=true) ↔ (b2=true))->Small s8->(s8.len>0->p_plus s7 (Sl.lit [[(.int 1)]])/\∀ s9:Sl,R32 s9->q_plus s7 (Sl.lit [[(.int 1)]]) s9->p_minus s5 s8/\∀ s10:Sl,R32 s10->q_minus s5 s8 s10->
p_unpack (decide (¬ ((b0=true) ↔ (b2=true)))) s9/\∀ b11:Bool,∀ s12:Sl,R16 s12->q_unpack (decide (¬ ((b0=true) ↔ (b2=true)))) s9 (dB b11) s12->p_unpack (dB b2) s10/\∀ b13:Bool,∀ s14:Sl,R16 s14->q_unpack (dB b2) s10 (dB b13) s14->q_wDivMod (dB b0) s1 (dB b2) s3 (dB b11) s12 (dB b13) s14 0/\True)/\(¬s8.len>0->
p_unpack (decide (¬ ((b0=true) ↔ (b2=true)))) s7/\∀ b9:Bool,∀ s10:Sl,R16 s10->q_unpack (decide (¬ ((b0=true) ↔ (b2=true)))) s7 (dB b9) s10->p_unpack (dB b2) s8/\∀ b11:Bool,∀ s12:Sl,R16 s12->q_unpack (dB b2) s8 (dB b11) s12->q_wDivMod (dB b0) s1 (dB b2) s3 (dB b9) s10 (dB b11) s12 0/\True))/\(¬ (¬ ((b0=true) ↔ (b2=true)))->
p_unpack (decide (¬ ((b0=true) ↔ (b2=true)))) s7/\∀ b9:Bool,∀ s10:Sl,R16 s10->q_unpack (decide (¬ ((b0=true) ↔ (b2=true)))) s7 (dB b9) s10->p_unpack (dB b2) s8/\∀ b11:Bool,∀ s12:Sl,R16 s12->q_unpack (dB b2) s8 (dB b11) s12->q_wDivMod (dB b0) s1 (dB b2) s3 (dB b9) s10 (dB b11) s12 0/\True)))
def V_wGcd:Prop:=
∀ b0:Bool,∀ s1:Sl,R16 s1->∀ b2:Bool,∀ s3:Sl,R16 s3->p_wGcd (dB b0) s1 (dB b2) s3->p_wAllValid (Sl.lit [[(.bool (dB b0)),s1.d],[(.bool (dB b2)),s3.d]])/\∀ b4:Bool,q_wAllValid (Sl.lit [[(.bool (dB b0)),s1.d],[(.bool (dB b2)),s3.d]]) (dB b4)->(¬b4=true->
q_wGcd (dB b0) s1 (dB b2) s3 dF Sl.nil 2/\True)/\(¬¬ (b4=true)->p_pack s1/\∀ s5:Sl,R32 s5->q_pack s1 s5->p_pack s3/\∀ s6:Sl,R32 s6->q_pack s3 s6->p_commonDivisor s5 s6/\∀ s7:Sl,R32 s7->q_commonDivisor s5 s6 s7->p_unpack dF s7/\∀ b8:Bool,∀ s9:Sl,R16 s9->
q_unpack dF s7 (dB b8) s9->q_wGcd (dB b0) s1 (dB b2) s3 (dB b8) s9 0/\True)
def V_wCmp:Prop:=
∀ b0:Bool,∀ s1:Sl,R16 s1->∀ b2:Bool,∀ s3:Sl,R16 s3->p_wCmp (dB b0) s1 (dB b2) s3->p_wAllValid (Sl.lit [[(.bool (dB b0)),s1.d],[(.bool (dB b2)),s3.d]])/\∀ b4:Bool,q_wAllValid (Sl.lit [[(.bool (dB b0)),s1.d],[(.bool (dB b2)),s3.d]]) (dB b4)->(¬b4=true->
q_wCmp (dB b0) s1 (dB b2) s3 0/\True)/\(¬¬ (b4=true)->(¬ ((b0=true) ↔ (b2=true))->(b0=true->q_wCmp (dB b0) s1 (dB b2) s3 (-1)/\True)/\(¬b0=true->q_wCmp (dB b0) s1 (dB b2) s3 1/\True))/\(¬ (¬ ((b0=true) ↔ (b2=true)))->p_pack s1/\∀ s5:Sl,R32 s5->q_pack s1 s5->
p_pack s3/\∀ s6:Sl,R32 s6->q_pack s3 s6->p_compare s5 s6/\∀ x7:Int,Rng .i64 x7->q_compare s5 s6 x7->(b0=true->Rng .i64 (0 - x7)/\q_wCmp (dB b0) s1 (dB b2) s3 (0 - x7)/\True)/\(¬b0=true->q_wCmp (dB b0) s1 (dB b2) s3 x7/\True)))
end Go.Sx.N
