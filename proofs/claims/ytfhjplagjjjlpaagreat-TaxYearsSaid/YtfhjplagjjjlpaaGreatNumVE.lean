/-
  The conditions of the functions. Conditions: none; printed by a program of our own.
-/
import Derived.Test.YtfhjplagjjjlpaaGreatNumBase
set_option maxRecDepth 20000
namespace Go.Sx.N
open IntKind (wrap)
def V_rOne:Prop:=
∀ s0:Sl,R16 s0->p_rOne s0->Small s0->(s0.len=1->(0 : Int)≤0/\(0 : Int)<s0.len/\(Rng .u16 (s0.int 0 0)->q_rOne s0 (decide ((s0.int 0 0)=1))/\True))/\(¬s0.len=1->q_rOne s0 dF/\True)
def V_rFits:Prop:=
∀ b0:Bool,∀ s1:Sl,R16 s1->∀ b2:Bool,∀ s3:Sl,R16 s3->p_rFits (dB b0) s1 (dB b2) s3->Small s1->(s1.len≤256->Small s3->q_rFits (dB b0) s1 (dB b2) s3 (decide (s3.len≤256))/\True)/\(¬s1.len≤256->q_rFits (dB b0) s1 (dB b2) s3 dF/\True)
def V_rLowest:Prop:=
∀ b0:Bool,∀ s1:Sl,R16 s1->∀ b2:Bool,∀ s3:Sl,R16 s3->p_rLowest (dB b0) s1 (dB b2) s3->p_rCommon s1 s3/\∀ s4:Sl,R16 s4->q_rCommon s1 s3 s4->p_rOne s4/\∀ b5:Bool,q_rOne s4 (dB b5)->(b5=true->p_rMake (decide (¬ ((b0=true) ↔ (b2=true)))) s1/\∀ b6:Bool,∀ s7:Sl,R16 s7-> q_rMake (decide (¬ ((b0=true) ↔ (b2=true)))) s1 (dB b6) s7->p_rMake dF s3/\∀ b8:Bool,∀ s9:Sl,R16 s9->q_rMake dF s3 (dB b8) s9->q_rLowest (dB b0) s1 (dB b2) s3 (dB b6) s7 (dB b8) s9/\True)/\(¬b5=true->p_rDivided s1 s4/\∀ s6:Sl,R16 s6->∀ s7:Sl,R16 s7->q_rDivided s1 s4 s6 s7-> p_rDivided s3 s4/\∀ s8:Sl,R16 s8->∀ s9:Sl,R16 s9->q_rDivided s3 s4 s8 s9->p_rMake (decide (¬ ((b0=true) ↔ (b2=true)))) s6/\∀ b10:Bool,∀ s11:Sl,R16 s11->q_rMake (decide (¬ ((b0=true) ↔ (b2=true)))) s6 (dB b10) s11->p_rMake dF s8/\∀ b12:Bool,∀ s13:Sl,R16 s13-> q_rMake dF s8 (dB b12) s13->q_rLowest (dB b0) s1 (dB b2) s3 (dB b10) s11 (dB b12) s13/\True)
def V_rValid2:Prop:=
∀ b0:Bool,∀ s1:Sl,R16 s1->∀ b2:Bool,∀ s3:Sl,R16 s3->p_rValid2 (dB b0) s1 (dB b2) s3->p_rValid1 (dB b0) s1/\∀ b4:Bool,q_rValid1 (dB b0) s1 (dB b4)->(¬b4=true->q_rValid2 (dB b0) s1 (dB b2) s3 dF/\True)/\(¬¬ (b4=true)->p_rValid1 (dB b2) s3/\∀ b5:Bool,q_rValid1 (dB b2) s3 (dB b5)->
(¬b5=true->q_rValid2 (dB b0) s1 (dB b2) s3 dF/\True)/\(¬¬ (b5=true)->p_rFits (dB b0) s1 (dB b2) s3/\∀ b6:Bool,q_rFits (dB b0) s1 (dB b2) s3 (dB b6)->(¬b6=true->q_rValid2 (dB b0) s1 (dB b2) s3 dF/\True)/\(¬¬ (b6=true)->(b2=true->q_rValid2 (dB b0) s1 (dB b2) s3 dF/\True)/\(¬b2=true-> Small s3->(s3.len=0->q_rValid2 (dB b0) s1 (dB b2) s3 dF/\True)/\(¬s3.len=0->p_rCommon s1 s3/\∀ s7:Sl,R16 s7->q_rCommon s1 s3 s7->p_rOne s7/\∀ b8:Bool,q_rOne s7 (dB b8)->q_rValid2 (dB b0) s1 (dB b2) s3 (dB b8)/\True)))))
def V_rFromInt2:Prop:=
∀ x0:Int,Rng .i64 x0->p_rFromInt2 x0->p_rFromInt1 x0/\∀ b1:Bool,∀ s2:Sl,R16 s2->q_rFromInt1 x0 (dB b1) s2->p_rFromInt1 1/\∀ b3:Bool,∀ s4:Sl,R16 s4->q_rFromInt1 1 (dB b3) s4->q_rFromInt2 x0 (dB b1) s2 (dB b3) s4/\True
def V_rQuick:Prop:=
∀ x0:Int,Rng .i64 x0->∀ x1:Int,Rng .i64 x1->p_rQuick x0 x1->p_rFromInt1 x0/\∀ b2:Bool,∀ s3:Sl,R16 s3->q_rFromInt1 x0 (dB b2) s3->p_rFromInt1 x1/\∀ b4:Bool,∀ s5:Sl,R16 s5->q_rFromInt1 x1 (dB b4) s5->p_rLowest (dB b2) s3 (dB b4) s5/\∀ b6:Bool,∀ s7:Sl,R16 s7->
∀ b8:Bool,∀ s9:Sl,R16 s9->q_rLowest (dB b2) s3 (dB b4) s5 (dB b6) s7 (dB b8) s9->q_rQuick x0 x1 (dB b6) s7 (dB b8) s9/\True
def V_rOrder2:Prop:=
∀ b0:Bool,∀ s1:Sl,R16 s1->∀ b2:Bool,∀ s3:Sl,R16 s3->∀ b4:Bool,∀ s5:Sl,R16 s5->∀ b6:Bool,∀ s7:Sl,R16 s7->p_rOrder2 (dB b0) s1 (dB b2) s3 (dB b4) s5 (dB b6) s7->p_rProduct1 (dB b0) s1 (dB b6) s7/\∀ b8:Bool,∀ s9:Sl,R16 s9->q_rProduct1 (dB b0) s1 (dB b6) s7 (dB b8) s9-> p_rProduct1 (dB b4) s5 (dB b2) s3/\∀ b10:Bool,∀ s11:Sl,R16 s11->q_rProduct1 (dB b4) s5 (dB b2) s3 (dB b10) s11->p_rOrder1 (dB b8) s9 (dB b10) s11/\∀ x12:Int,Rng .i64 x12->q_rOrder1 (dB b8) s9 (dB b10) s11 x12->q_rOrder2 (dB b0) s1 (dB b2) s3 (dB b4) s5 (dB b6) s7 x12/\True
def V_rCmp2:Prop:=
∀ b0:Bool,∀ s1:Sl,R16 s1->∀ b2:Bool,∀ s3:Sl,R16 s3->∀ b4:Bool,∀ s5:Sl,R16 s5->∀ b6:Bool,∀ s7:Sl,R16 s7->p_rCmp2 (dB b0) s1 (dB b2) s3 (dB b4) s5 (dB b6) s7->p_rValid2 (dB b0) s1 (dB b2) s3/\∀ b8:Bool,q_rValid2 (dB b0) s1 (dB b2) s3 (dB b8)->(¬b8=true-> q_rCmp2 (dB b0) s1 (dB b2) s3 (dB b4) s5 (dB b6) s7 0/\True)/\(¬¬ (b8=true)->p_rValid2 (dB b4) s5 (dB b6) s7/\∀ b9:Bool,q_rValid2 (dB b4) s5 (dB b6) s7 (dB b9)->(¬b9=true->q_rCmp2 (dB b0) s1 (dB b2) s3 (dB b4) s5 (dB b6) s7 0/\True)/\(¬¬ (b9=true)->p_rOrder2 (dB b0) s1 (dB b2) s3 (dB b4) s5 (dB b6) s7/\∀ x10:Int,Rng .i64 x10-> q_rOrder2 (dB b0) s1 (dB b2) s3 (dB b4) s5 (dB b6) s7 x10->q_rCmp2 (dB b0) s1 (dB b2) s3 (dB b4) s5 (dB b6) s7 x10/\True))
end Go.Sx.N
