/-
  The conditions of the functions. Conditions: none; printed by a program of our own.
-/
import Derived.Test.YtbgbcaamipknmaaGreatNumBase
set_option maxRecDepth 20000
namespace Go.Sx.N
open IntKind (wrap)
def V_rOne:Prop:=
∀s0:Sl,R16 s0->p_rOne s0->Small s0->(s0.len=1->(0:Int)≤0/\(0:Int)<s0.len/\(Rng .u16 (s0.int 0 0)->q_rOne s0 (decide ((s0.int 0 0)=1))/\True))/\(¬s0.len=1->q_rOne s0 dF/\True)
def V_rFits:Prop:=
∀b0:Bool,∀s1:Sl,R16 s1->∀b2:Bool,∀s3:Sl,R16 s3->p_rFits (dB b0) s1 (dB b2) s3->Small s1->(s1.len≤256->Small s3->q_rFits (dB b0) s1 (dB b2) s3 (decide (s3.len≤256))/\True)/\(¬s1.len≤256->q_rFits (dB b0) s1 (dB b2) s3 dF/\True)
def V_rValid2:Prop:=
∀b0:Bool,∀s1:Sl,R16 s1->∀b2:Bool,∀s3:Sl,R16 s3->p_rValid2 (dB b0) s1 (dB b2) s3->p_rValid1 (dB b0) s1/\∀b4:Bool,q_rValid1 (dB b0) s1 (dB b4)->(¬b4=true->q_rValid2 (dB b0) s1 (dB b2) s3 dF/\True)/\(¬¬(b4=true)->p_rValid1 (dB b2) s3/\∀b5:Bool,q_rValid1 (dB b2) s3 (dB b5)->
(¬b5=true->q_rValid2 (dB b0) s1 (dB b2) s3 dF/\True)/\(¬¬(b5=true)->p_rFits (dB b0) s1 (dB b2) s3/\∀b6:Bool,q_rFits (dB b0) s1 (dB b2) s3 (dB b6)->(¬b6=true->q_rValid2 (dB b0) s1 (dB b2) s3 dF/\True)/\(¬¬(b6=true)->(b2=true->q_rValid2 (dB b0) s1 (dB b2) s3 dF/\True)/\(¬b2=true-> Small s3->(s3.len=0->q_rValid2 (dB b0) s1 (dB b2) s3 dF/\True)/\(¬s3.len=0->p_rCommon s1 s3/\∀s7:Sl,R16 s7->q_rCommon s1 s3 s7->p_rOne s7/\∀b8:Bool,q_rOne s7 (dB b8)->q_rValid2 (dB b0) s1 (dB b2) s3 (dB b8)/\True)))))
end Go.Sx.N
