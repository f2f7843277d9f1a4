/-
  The conditions of the functions. Conditions: none; printed by a program of our own.
-/
import Derived.Test.YtmhhcnaflklapaaGreatLedSpec
set_option maxRecDepth 20000
namespace Go.Sx.N
open IntKind (wrap)
def V_has:Prop:=
∀ x0:Int,Rng .i64 x0->∀ s1:Sl,∀ s2:Sl,∀ x3:Int,Rng .i64 x3->p_has x0 s1 s2 x3->(x0≤x3->Small s1->Rng .i64 (x0+s1.len)/\q_has x0 s1 s2 x3 (decide (x3<(x0+s1.len)))/\True)/\(¬x0≤x3->q_has x0 s1 s2 x3 dF/\True)
def V_follow:Prop:=
∀ x0:Int,Rng .i64 x0->∀ s1:Sl,∀ s2:Sl,∀ s3:Sl,∀ x4:Int,Rng .i64 x4->p_follow x0 s1 s2 s3 x4->Small s3->∃(J5:Int->Int->Prop)(M5:Int->Int->Nat),J5 x4 0/\∀ x6:Int,Rng .i64 x6->∀ x7:Int,Rng .i64 x7->J5 x6 x7->(x7<s3.len->(0 : Int)≤x7/\x7<s3.len/\(Rng .i64 (s3.int x7 0)->
Rng .i64 (s3.int x7 1)->Rng .u8 (s3.int x7 2)->Rng .i64 (s3.int x7 3)->((s3.int x7 0)<0->q_follow x0 s1 s2 s3 x4 dF/\True)/\(¬(s3.int x7 0)<0->((s3.int x7 0)≥65536->q_follow x0 s1 s2 s3 x4 dF/\True)/\(¬(s3.int x7 0)≥65536->p_has x0 s1 s2 (s3.int x7 1)/\∀ b8:Bool,q_has x0 s1 s2 (s3.int x7 1) (dB b8)->
(¬b8=true->q_follow x0 s1 s2 s3 x4 dF/\True)/\(¬¬ (b8=true)->((s3.int x7 2)=1->((0 : Int)≤(s3.int x7 3)->(¬(s3.int x7 3)≤1099511627776->q_follow x0 s1 s2 s3 x4 dF/\True)/\(¬¬ ((s3.int x7 3)≤1099511627776)->((s3.int x7 0)<x6->q_follow x0 s1 s2 s3 x4 dF/\True)/\(¬(s3.int x7 0)<x6->
Rng .i64 (x7+1)/\J5 (s3.int x7 0) (x7+1)/\M5 (s3.int x7 0) (x7+1)<M5 x6 x7)))/\(¬(0 : Int)≤(s3.int x7 3)->q_follow x0 s1 s2 s3 x4 dF/\True))/\(¬(s3.int x7 2)=1->((s3.int x7 2)=2->((0 : Int)≤(s3.int x7 3)->(¬(s3.int x7 3)≤1099511627776->q_follow x0 s1 s2 s3 x4 dF/\True)/\(¬¬ ((s3.int x7 3)≤1099511627776)->
((s3.int x7 0)<x6->q_follow x0 s1 s2 s3 x4 dF/\True)/\(¬(s3.int x7 0)<x6->Rng .i64 (x7+1)/\J5 (s3.int x7 0) (x7+1)/\M5 (s3.int x7 0) (x7+1)<M5 x6 x7)))/\(¬(0 : Int)≤(s3.int x7 3)->q_follow x0 s1 s2 s3 x4 dF/\True))/\(¬(s3.int x7 2)=2->((s3.int x7 2)=3->
((0 : Int)≤(s3.int x7 3)->(¬(s3.int x7 3)≤1099511627776->q_follow x0 s1 s2 s3 x4 dF/\True)/\(¬¬ ((s3.int x7 3)≤1099511627776)->((s3.int x7 0)<x6->q_follow x0 s1 s2 s3 x4 dF/\True)/\(¬(s3.int x7 0)<x6->Rng .i64 (x7+1)/\J5 (s3.int x7 0) (x7+1)/\M5 (s3.int x7 0) (x7+1)<M5 x6 x7)))/\(¬(0 : Int)≤(s3.int x7 3)->
q_follow x0 s1 s2 s3 x4 dF/\True))/\(¬(s3.int x7 2)=3->((s3.int x7 2)=6->((0 : Int)≤(s3.int x7 3)->(¬(s3.int x7 3)≤1099511627776->q_follow x0 s1 s2 s3 x4 dF/\True)/\(¬¬ ((s3.int x7 3)≤1099511627776)->((s3.int x7 0)<x6->q_follow x0 s1 s2 s3 x4 dF/\True)/\(¬(s3.int x7 0)<x6->
Rng .i64 (x7+1)/\J5 (s3.int x7 0) (x7+1)/\M5 (s3.int x7 0) (x7+1)<M5 x6 x7)))/\(¬(0 : Int)≤(s3.int x7 3)->q_follow x0 s1 s2 s3 x4 dF/\True))/\(¬(s3.int x7 2)=6->((s3.int x7 2)=4->(((-1099511627776) : Int)≤(s3.int x7 3)->(¬(s3.int x7 3)≤0->q_follow x0 s1 s2 s3 x4 dF/\True)/\(¬¬ ((s3.int x7 3)≤0)->
((s3.int x7 0)<x6->q_follow x0 s1 s2 s3 x4 dF/\True)/\(¬(s3.int x7 0)<x6->Rng .i64 (x7+1)/\J5 (s3.int x7 0) (x7+1)/\M5 (s3.int x7 0) (x7+1)<M5 x6 x7)))/\(¬((-1099511627776) : Int)≤(s3.int x7 3)->q_follow x0 s1 s2 s3 x4 dF/\True))/\(¬(s3.int x7 2)=4->((s3.int x7 2)=5->
(((-1099511627776) : Int)≤(s3.int x7 3)->(¬(s3.int x7 3)≤0->q_follow x0 s1 s2 s3 x4 dF/\True)/\(¬¬ ((s3.int x7 3)≤0)->((s3.int x7 0)<x6->q_follow x0 s1 s2 s3 x4 dF/\True)/\(¬(s3.int x7 0)<x6->Rng .i64 (x7+1)/\J5 (s3.int x7 0) (x7+1)/\M5 (s3.int x7 0) (x7+1)<M5 x6 x7)))/\(¬((-1099511627776) : Int)≤(s3.int x7 3)->
q_follow x0 s1 s2 s3 x4 dF/\True))/\(¬(s3.int x7 2)=5->q_follow x0 s1 s2 s3 x4 dF/\True)))))))))))/\(¬x7<s3.len->q_follow x0 s1 s2 s3 x4 dT/\True)
def V_Valid:Prop:=
∀ x0:Int,Rng .i64 x0->∀ s1:Sl,∀ s2:Sl,p_Valid x0 s1 s2->(x0<0->q_Valid x0 s1 s2 dF/\True)/\(¬x0<0->(x0>2400->q_Valid x0 s1 s2 dF/\True)/\(¬x0>2400->Small s1->(s1.len>1200->q_Valid x0 s1 s2 dF/\True)/\(¬s1.len>1200->Small s1->Rng .i64 (x0+s1.len)/\((x0+s1.len)>2400->
q_Valid x0 s1 s2 dF/\True)/\(¬(x0+s1.len)>2400->Small s1->∃(J3:Int->Prop)(M3:Int->Nat),J3 0/\∀ x4:Int,Rng .i64 x4->J3 x4->(x4<s1.len->(0 : Int)≤x4/\x4<s1.len/\(Rng .i64 (s1.int x4 0)->((s1.int x4 0)<0->(x4≥0->q_Valid x0 s1 s2 dF/\True)/\(¬x4≥0->Small s2->
(s2.len≤4000->p_follow x0 s1 s2 s2 0/\∀ b5:Bool,q_follow x0 s1 s2 s2 0 (dB b5)->q_Valid x0 s1 s2 (dB b5)/\True)/\(¬s2.len≤4000->q_Valid x0 s1 s2 dF/\True)))/\(¬(s1.int x4 0)<0->((s1.int x4 0)>1099511627776->(x4≥0->q_Valid x0 s1 s2 dF/\True)/\(¬x4≥0->Small s2->
(s2.len≤4000->p_follow x0 s1 s2 s2 0/\∀ b5:Bool,q_follow x0 s1 s2 s2 0 (dB b5)->q_Valid x0 s1 s2 (dB b5)/\True)/\(¬s2.len≤4000->q_Valid x0 s1 s2 dF/\True)))/\(¬(s1.int x4 0)>1099511627776->Rng .i64 (x4+1)/\J3 (x4+1)/\M3 (x4+1)<M3 x4))))/\(¬x4<s1.len->
(((-1) : Int)≥0->q_Valid x0 s1 s2 dF/\True)/\(¬((-1) : Int)≥0->Small s2->(s2.len≤4000->p_follow x0 s1 s2 s2 0/\∀ b5:Bool,q_follow x0 s1 s2 s2 0 (dB b5)->q_Valid x0 s1 s2 (dB b5)/\True)/\(¬s2.len≤4000->q_Valid x0 s1 s2 dF/\True)))))))
def V_posted:Prop:=
∀ x0:Int,Rng .i64 x0->∀ s1:Sl,∀ s2:Sl,∀ x3:Int,Rng .i64 x3->p_posted x0 s1 s2 x3->Small s2->∃(J4:Int->Int->Prop)(M4:Int->Int->Nat),J4 0 0/\∀ x5:Int,Rng .i64 x5->∀ x6:Int,Rng .i64 x6->J4 x5 x6->(x6<s2.len->(0 : Int)≤x6/\x6<s2.len/\(Rng .i64 (s2.int x6 0)->
Rng .i64 (s2.int x6 1)->Rng .u8 (s2.int x6 2)->Rng .i64 (s2.int x6 3)->((s2.int x6 1)≠x3->Rng .i64 (x5+0)/\Rng .i64 (x6+1)/\J4 (x5+0) (x6+1)/\M4 (x5+0) (x6+1)<M4 x5 x6)/\(¬(s2.int x6 1)≠x3->((s2.int x6 2)=3->Rng .i64 (x5+0)/\Rng .i64 (x6+1)/\J4 (x5+0) (x6+1)/\M4 (x5+0) (x6+1)<M4 x5 x6)/\(¬(s2.int x6 2)=3->
Rng .i64 (x5+(s2.int x6 3))/\Rng .i64 (x6+1)/\J4 (x5+(s2.int x6 3)) (x6+1)/\M4 (x5+(s2.int x6 3)) (x6+1)<M4 x5 x6))))/\(¬x6<s2.len->q_posted x0 s1 s2 x3 x5/\True)
def V_Open:Prop:=
∀ x0:Int,Rng .i64 x0->∀ s1:Sl,∀ s2:Sl,∀ x3:Int,Rng .i64 x3->p_Open x0 s1 s2 x3->p_Valid x0 s1 s2/\∀ b4:Bool,q_Valid x0 s1 s2 (dB b4)->(¬b4=true->q_Open x0 s1 s2 x3 0 2/\True)/\(¬¬ (b4=true)->p_has x0 s1 s2 x3/\∀ b5:Bool,q_has x0 s1 s2 x3 (dB b5)->(¬b5=true->
q_Open x0 s1 s2 x3 0 6/\True)/\(¬¬ (b5=true)->Rng .i64 (x3 - x0)/\(0 : Int)≤(x3 - x0)/\(x3 - x0)<s1.len/\(Rng .i64 (s1.int (x3 - x0) 0)->p_posted x0 s1 s2 x3/\∀ x6:Int,Rng .i64 x6->q_posted x0 s1 s2 x3 x6->Rng .i64 ((s1.int (x3 - x0) 0) - x6)/\q_Open x0 s1 s2 x3 ((s1.int (x3 - x0) 0) - x6) 0/\True)))
def V_Total:Prop:=
∀ x0:Int,Rng .i64 x0->∀ s1:Sl,∀ s2:Sl,∀ x3:Int,Rng .u8 x3->p_Total x0 s1 s2 x3->p_Valid x0 s1 s2/\∀ b4:Bool,q_Valid x0 s1 s2 (dB b4)->(¬b4=true->q_Total x0 s1 s2 x3 0 2/\True)/\(¬¬ (b4=true)->(x3<1->q_Total x0 s1 s2 x3 0 2/\True)/\(¬x3<1->(x3>6->q_Total x0 s1 s2 x3 0 2/\True)/\(¬x3>6->
Small s2->∃(J5:Int->Int->Prop)(M5:Int->Int->Nat),J5 0 0/\∀ x6:Int,Rng .i64 x6->∀ x7:Int,Rng .i64 x7->J5 x6 x7->(x7<s2.len->(0 : Int)≤x7/\x7<s2.len/\(Rng .i64 (s2.int x7 0)->Rng .i64 (s2.int x7 1)->Rng .u8 (s2.int x7 2)->Rng .i64 (s2.int x7 3)->((s2.int x7 2)≠x3->
Rng .i64 (x6+0)/\Rng .i64 (x7+1)/\J5 (x6+0) (x7+1)/\M5 (x6+0) (x7+1)<M5 x6 x7)/\(¬(s2.int x7 2)≠x3->Rng .i64 (x6+(s2.int x7 3))/\Rng .i64 (x7+1)/\J5 (x6+(s2.int x7 3)) (x7+1)/\M5 (x6+(s2.int x7 3)) (x7+1)<M5 x6 x7)))/\(¬x7<s2.len->q_Total x0 s1 s2 x3 x6 0/\True))))
def V_Same:Prop:=
∀ x0:Int,Rng .i64 x0->∀ s1:Sl,∀ s2:Sl,∀ x3:Int,Rng .i64 x3->∀ s4:Sl,∀ s5:Sl,p_Same x0 s1 s2 x3 s4 s5->(x0≠x3->q_Same x0 s1 s2 x3 s4 s5 dF/\True)/\(¬x0≠x3->Small s1->Small s4->(s1.len≠s4.len->q_Same x0 s1 s2 x3 s4 s5 dF/\True)/\(¬s1.len≠s4.len->Small s2->
Small s5->(s2.len≠s5.len->q_Same x0 s1 s2 x3 s4 s5 dF/\True)/\(¬s2.len≠s5.len->Small s1->∃(J6:Int->Prop)(M6:Int->Nat),J6 0/\∀ x7:Int,Rng .i64 x7->J6 x7->(x7<s1.len->(0 : Int)≤x7/\x7<s1.len/\(Rng .i64 (s1.int x7 0)->(0 : Int)≤x7/\x7<s4.len/\(Rng .i64 (s4.int x7 0)->
((s1.int x7 0)≠(s4.int x7 0)->q_Same x0 s1 s2 x3 s4 s5 dF/\True)/\(¬(s1.int x7 0)≠(s4.int x7 0)->Rng .i64 (x7+1)/\J6 (x7+1)/\M6 (x7+1)<M6 x7))))/\(¬x7<s1.len->Small s2->∃(J8:Int->Prop)(M8:Int->Nat),J8 0/\∀ x9:Int,Rng .i64 x9->J8 x9->(x9<s2.len->(0 : Int)≤x9/\x9<s2.len/\(Rng .i64 (s2.int x9 0)->
Rng .i64 (s2.int x9 1)->Rng .u8 (s2.int x9 2)->Rng .i64 (s2.int x9 3)->(0 : Int)≤x9/\x9<s5.len/\(Rng .i64 (s5.int x9 0)->Rng .i64 (s5.int x9 1)->Rng .u8 (s5.int x9 2)->Rng .i64 (s5.int x9 3)->(¬ (((s2.int x9 0)=(s5.int x9 0)) ∧ (((s2.int x9 1)=(s5.int x9 1)) ∧ (((s2.int x9 2)=(s5.int x9 2)) ∧ ((s2.int x9 3)=(s5.int x9 3)))))->
q_Same x0 s1 s2 x3 s4 s5 dF/\True)/\(¬ (¬ (((s2.int x9 0)=(s5.int x9 0)) ∧ (((s2.int x9 1)=(s5.int x9 1)) ∧ (((s2.int x9 2)=(s5.int x9 2)) ∧ ((s2.int x9 3)=(s5.int x9 3))))))->Rng .i64 (x9+1)/\J8 (x9+1)/\M8 (x9+1)<M8 x9))))/\(¬x9<s2.len->q_Same x0 s1 s2 x3 s4 s5 dT/\True)))))
def V_rHas:Prop:=
∀ x0:Int,Rng .i64 x0->∀ s1:Sl,∀ s2:Sl,∀ x3:Int,Rng .i64 x3->p_rHas x0 s1 s2 x3->∃(J4:Int->Prop)(M4:Int->Nat),J4 0/\∀ x5:Int,Rng .i64 x5->J4 x5->Small s1->(x5<s1.len->Rng .i64 (x0+x5)/\((x0+x5)=x3->q_rHas x0 s1 s2 x3 dT/\True)/\(¬(x0+x5)=x3->Rng .i64 (x5+1)/\J4 (x5+1)/\M4 (x5+1)<M4 x5))/\(¬x5<s1.len->
q_rHas x0 s1 s2 x3 dF/\True)
def V_rRight:Prop:=
∀ x0:Int,Rng .i64 x0->∀ s1:Sl,∀ s2:Sl,∀ x3:Int,Rng .i64 x3->∀ x4:Int,Rng .i64 x4->∀ x5:Int,Rng .u8 x5->∀ x6:Int,Rng .i64 x6->p_rRight x0 s1 s2 x3 x4 x5 x6->(x3<0->q_rRight x0 s1 s2 x3 x4 x5 x6 dF/\True)/\(¬x3<0->(x3≥65536->q_rRight x0 s1 s2 x3 x4 x5 x6 dF/\True)/\(¬x3≥65536->
p_rHas x0 s1 s2 x4/\∀ b7:Bool,q_rHas x0 s1 s2 x4 (dB b7)->(¬b7=true->q_rRight x0 s1 s2 x3 x4 x5 x6 dF/\True)/\(¬¬ (b7=true)->(x5<1->q_rRight x0 s1 s2 x3 x4 x5 x6 dF/\True)/\(¬x5<1->(x5>6->q_rRight x0 s1 s2 x3 x4 x5 x6 dF/\True)/\(¬x5>6->(x5≤3->(x6≥0->
q_rRight x0 s1 s2 x3 x4 x5 x6 (decide (x6≤1099511627776))/\True)/\(¬x6≥0->q_rRight x0 s1 s2 x3 x4 x5 x6 dF/\True))/\(¬x5≤3->(x5=6->(x6≥0->q_rRight x0 s1 s2 x3 x4 x5 x6 (decide (x6≤1099511627776))/\True)/\(¬x6≥0->q_rRight x0 s1 s2 x3 x4 x5 x6 dF/\True))/\(¬x5=6->
(x6≤0->q_rRight x0 s1 s2 x3 x4 x5 x6 (decide (x6≥(-1099511627776)))/\True)/\(¬x6≤0->q_rRight x0 s1 s2 x3 x4 x5 x6 dF/\True))))))))
def V_rPosts:Prop:=
∀ x0:Int,Rng .i64 x0->∀ s1:Sl,∀ s2:Sl,∀ s3:Sl,p_rPosts x0 s1 s2 s3->∃(J4:Int->Prop)(M4:Int->Nat),J4 0/\∀ x5:Int,Rng .i64 x5->J4 x5->Small s3->(x5<s3.len->(0 : Int)≤x5/\x5<s3.len/\(Rng .i64 (s3.int x5 0)->Rng .i64 (s3.int x5 1)->Rng .u8 (s3.int x5 2)->
Rng .i64 (s3.int x5 3)->p_rRight x0 s1 s2 (s3.int x5 0) (s3.int x5 1) (s3.int x5 2) (s3.int x5 3)/\∀ b6:Bool,q_rRight x0 s1 s2 (s3.int x5 0) (s3.int x5 1) (s3.int x5 2) (s3.int x5 3) (dB b6)->(¬b6=true->q_rPosts x0 s1 s2 s3 dF/\True)/\(¬¬ (b6=true)->(x5>0->
Rng .i64 (x5 - 1)/\(0 : Int)≤(x5 - 1)/\(x5 - 1)<s3.len/\(Rng .i64 (s3.int (x5 - 1) 0)->(0 : Int)≤x5/\x5<s3.len/\(Rng .i64 (s3.int x5 0)->((s3.int (x5 - 1) 0)>(s3.int x5 0)->q_rPosts x0 s1 s2 s3 dF/\True)/\(¬(s3.int (x5 - 1) 0)>(s3.int x5 0)->Rng .i64 (x5+1)/\J4 (x5+1)/\M4 (x5+1)<M4 x5))))/\(¬x5>0->
Rng .i64 (x5+1)/\J4 (x5+1)/\M4 (x5+1)<M4 x5))))/\(¬x5<s3.len->q_rPosts x0 s1 s2 s3 dT/\True)
def V_rValid:Prop:=
∀ x0:Int,Rng .i64 x0->∀ s1:Sl,∀ s2:Sl,p_rValid x0 s1 s2->(x0<0->q_rValid x0 s1 s2 dF/\True)/\(¬x0<0->(x0>2400->q_rValid x0 s1 s2 dF/\True)/\(¬x0>2400->Small s1->(s1.len>1200->q_rValid x0 s1 s2 dF/\True)/\(¬s1.len>1200->Small s1->Rng .i64 (x0+s1.len)/\((x0+s1.len)>2400->
q_rValid x0 s1 s2 dF/\True)/\(¬(x0+s1.len)>2400->Small s2->(s2.len>4000->q_rValid x0 s1 s2 dF/\True)/\(¬s2.len>4000->∃(J3:Int->Prop)(M3:Int->Nat),J3 0/\∀ x4:Int,Rng .i64 x4->J3 x4->Small s1->(x4<s1.len->(0 : Int)≤x4/\x4<s1.len/\(Rng .i64 (s1.int x4 0)->
((s1.int x4 0)<0->q_rValid x0 s1 s2 dF/\True)/\(¬(s1.int x4 0)<0->(0 : Int)≤x4/\x4<s1.len/\(Rng .i64 (s1.int x4 0)->((s1.int x4 0)>1099511627776->q_rValid x0 s1 s2 dF/\True)/\(¬(s1.int x4 0)>1099511627776->Rng .i64 (x4+1)/\J3 (x4+1)/\M3 (x4+1)<M3 x4)))))/\(¬x4<s1.len->
p_rPosts x0 s1 s2 s2/\∀ b5:Bool,q_rPosts x0 s1 s2 s2 (dB b5)->q_rValid x0 s1 s2 (dB b5)/\True))))))
def V_rPosted:Prop:=
∀ x0:Int,Rng .i64 x0->∀ s1:Sl,∀ s2:Sl,∀ x3:Int,Rng .i64 x3->p_rPosted x0 s1 s2 x3->∃(J4:Int->Int->Prop)(M4:Int->Int->Nat),J4 0 0/\∀ x5:Int,Rng .i64 x5->∀ x6:Int,Rng .i64 x6->J4 x5 x6->Small s2->(x6<s2.len->(0 : Int)≤x6/\x6<s2.len/\(Rng .i64 (s2.int x6 1)->
((s2.int x6 1)=x3->(0 : Int)≤x6/\x6<s2.len/\(Rng .u8 (s2.int x6 2)->((s2.int x6 2)≠3->(0 : Int)≤x6/\x6<s2.len/\(Rng .i64 (s2.int x6 3)->Rng .i64 (x5+(s2.int x6 3))/\Rng .i64 (x6+1)/\J4 (x5+(s2.int x6 3)) (x6+1)/\M4 (x5+(s2.int x6 3)) (x6+1)<M4 x5 x6))/\(¬(s2.int x6 2)≠3->
Rng .i64 (x6+1)/\J4 x5 (x6+1)/\M4 x5 (x6+1)<M4 x5 x6)))/\(¬(s2.int x6 1)=x3->Rng .i64 (x6+1)/\J4 x5 (x6+1)/\M4 x5 (x6+1)<M4 x5 x6)))/\(¬x6<s2.len->q_rPosted x0 s1 s2 x3 x5/\True)
def V_Concat:Prop:=
∀ s0:Sl,Ranged s0 [none]->p_Concat s0->Small s0->∃(J1:Int->Int->Prop)(M1:Int->Int->Nat),J1 0 0/\∀ x2:Int,Rng .i64 x2->∀ x3:Int,Rng .i64 x3->J1 x2 x3->(x3<s0.len->(0 : Int)≤x3/\x3<s0.len/\(Ranged (s0.sub x3 0) [some .i64,some .i64,some .u8,some .i64]->
Small (s0.sub x3 0)->Rng .i64 (x2+(Sl.len (s0.sub x3 0)))/\((x2+(Sl.len (s0.sub x3 0)))<0->False)/\(¬ ((x2+(Sl.len (s0.sub x3 0)))<0)->Rng .i64 (x3+1)/\J1 (x2+(Sl.len (s0.sub x3 0))) (x3+1)/\M1 (x2+(Sl.len (s0.sub x3 0))) (x3+1)<M1 x2 x3)))/\(¬x3<s0.len->
(x2<0->False)/\(¬x2<0->Rng .i64 (0 - 0)/\Rng .i64 (x2 - (0 - 0))/\((x2 - (0 - 0))>0->(0 : Int)≤0/\(0 : Int)≤0/\(0 : Int)≤0/\(0 : Int)≤(x2 - (0 - 0))/\((x2 - (0 - 0))*32)≤140737488355328/\(0 : Int)≤0/\(0 : Int)≤0/\(0 : Int)≤(Sl.len (Sl.rep (x2 - (0 - 0)) [(.int 0),(.int 0),(.int 0),(.int 0)]))/\(Small s0->
∃(J4:Sl->Int->Prop)(M4:Sl->Int->Nat),J4 (Sl.part (Sl.rep (x2 - (0 - 0)) [(.int 0),(.int 0),(.int 0),(.int 0)]) 0 0) 0/\∀ s5:Sl,Ranged s5 [some .i64,some .i64,some .u8,some .i64]->∀ x6:Int,Rng .i64 x6->J4 s5 x6->(x6<s0.len->(0 : Int)≤x6/\x6<s0.len/\(Ranged (s0.sub x6 0) [some .i64,some .i64,some .u8,some .i64]->
((s5.len+(Sl.len (s0.sub x6 0)))*32)≤140737488355328/\Rng .i64 (x6+1)/\J4 (s5.app (s0.sub x6 0)) (x6+1)/\M4 (s5.app (s0.sub x6 0)) (x6+1)<M4 s5 x6))/\(¬x6<s0.len->q_Concat s0 s5/\True)))/\(¬(x2 - (0 - 0))>0->Small s0->∃(J4:Sl->Int->Prop)(M4:Sl->Int->Nat),J4 Sl.nil 0/\∀ s5:Sl,Ranged s5 [some .i64,some .i64,some .u8,some .i64]->
∀ x6:Int,Rng .i64 x6->J4 s5 x6->(x6<s0.len->(0 : Int)≤x6/\x6<s0.len/\(Ranged (s0.sub x6 0) [some .i64,some .i64,some .u8,some .i64]->((s5.len+(Sl.len (s0.sub x6 0)))*32)≤140737488355328/\Rng .i64 (x6+1)/\J4 (s5.app (s0.sub x6 0)) (x6+1)/\M4 (s5.app (s0.sub x6 0)) (x6+1)<M4 s5 x6))/\(¬x6<s0.len->
q_Concat s0 s5/\True))))
def V_Post:Prop:=
∀ x0:Int,Rng .i64 x0->∀ s1:Sl,∀ s2:Sl,∀ s3:Sl,p_Post x0 s1 s2 s3->p_Valid x0 s1 s2/\∀ b4:Bool,q_Valid x0 s1 s2 (dB b4)->(¬b4=true->q_Post x0 s1 s2 s3 0 Sl.nil Sl.nil 2/\True)/\(¬¬ (b4=true)->Small s2->(s2.len>0->Rng .i64 (s2.len - 1)/\(0 : Int)≤(s2.len - 1)/\(s2.len - 1)<s2.len/\(Rng .i64 (s2.int (s2.len - 1) 0)->
p_follow x0 s1 s2 s3 (s2.int (s2.len - 1) 0)/\∀ b5:Bool,q_follow x0 s1 s2 s3 (s2.int (s2.len - 1) 0) (dB b5)->(¬b5=true->q_Post x0 s1 s2 s3 0 Sl.nil Sl.nil 2/\True)/\(¬¬ (b5=true)->Small s2->Small s3->Rng .i64 (s2.len+s3.len)/\((s2.len+s3.len)>4000->q_Post x0 s1 s2 s3 0 Sl.nil Sl.nil 5/\True)/\(¬(s2.len+s3.len)>4000->
(∀ b6:Bool,(b6=true->s1.len≤0->p_Concat (Sl.lit [[s2.d],[s3.d]])/\∀ s7:Sl,q_Concat (Sl.lit [[s2.d],[s3.d]]) s7->q_Post x0 s1 s2 s3 x0 Sl.nil s7 0/\True)/\(¬b6=true->(((Sl.len (Sl.lit []))+s1.len)*8)≤140737488355328/\p_Concat (Sl.lit [[s2.d],[s3.d]])/\∀ s7:Sl,q_Concat (Sl.lit [[s2.d],[s3.d]]) s7->
q_Post x0 s1 s2 s3 x0 (Sl.app (Sl.lit []) s1) s7 0/\True))/\∀ b6:Bool,(b6=true->s1.len≤0->p_Concat (Sl.lit [[s2.d],[s3.d]])/\∀ s7:Sl,q_Concat (Sl.lit [[s2.d],[s3.d]]) s7->q_Post x0 s1 s2 s3 x0 Sl.nil s7 0/\True)/\(¬b6=true->(((Sl.len (Sl.lit []))+s1.len)*8)≤140737488355328/\p_Concat (Sl.lit [[s2.d],[s3.d]])/\∀ s7:Sl,q_Concat (Sl.lit [[s2.d],[s3.d]]) s7->
q_Post x0 s1 s2 s3 x0 (Sl.app (Sl.lit []) s1) s7 0/\True)))))/\(¬s2.len>0->p_follow x0 s1 s2 s3 0/\∀ b5:Bool,q_follow x0 s1 s2 s3 0 (dB b5)->(¬b5=true->q_Post x0 s1 s2 s3 0 Sl.nil Sl.nil 2/\True)/\(¬¬ (b5=true)->Small s2->Small s3->Rng .i64 (s2.len+s3.len)/\((s2.len+s3.len)>4000->
q_Post x0 s1 s2 s3 0 Sl.nil Sl.nil 5/\True)/\(¬(s2.len+s3.len)>4000->(∀ b6:Bool,(b6=true->s1.len≤0->p_Concat (Sl.lit [[s2.d],[s3.d]])/\∀ s7:Sl,q_Concat (Sl.lit [[s2.d],[s3.d]]) s7->q_Post x0 s1 s2 s3 x0 Sl.nil s7 0/\True)/\(¬b6=true->(((Sl.len (Sl.lit []))+s1.len)*8)≤140737488355328/\p_Concat (Sl.lit [[s2.d],[s3.d]])/\∀ s7:Sl,q_Concat (Sl.lit [[s2.d],[s3.d]]) s7->
q_Post x0 s1 s2 s3 x0 (Sl.app (Sl.lit []) s1) s7 0/\True))/\∀ b6:Bool,(b6=true->s1.len≤0->p_Concat (Sl.lit [[s2.d],[s3.d]])/\∀ s7:Sl,q_Concat (Sl.lit [[s2.d],[s3.d]]) s7->q_Post x0 s1 s2 s3 x0 Sl.nil s7 0/\True)/\(¬b6=true->(((Sl.len (Sl.lit []))+s1.len)*8)≤140737488355328/\p_Concat (Sl.lit [[s2.d],[s3.d]])/\∀ s7:Sl,q_Concat (Sl.lit [[s2.d],[s3.d]]) s7->
q_Post x0 s1 s2 s3 x0 (Sl.app (Sl.lit []) s1) s7 0/\True)))))
end Go.Sx.N
