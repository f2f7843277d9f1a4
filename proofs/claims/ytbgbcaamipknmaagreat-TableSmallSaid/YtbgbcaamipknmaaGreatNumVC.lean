/-
  The conditions of the functions. Conditions: none; printed by a program of our own.
-/
import Derived.Test.YtbgbcaamipknmaaGreatNumBase
set_option maxRecDepth 20000
namespace Go.Sx.N
open IntKind (wrap)
def V_fDivisor:Prop:=
∀b0:Bool,∀s1:Sl,R16 s1->∀b2:Bool,∀s3:Sl,R16 s3->p_fDivisor (dB b0) s1 (dB b2) s3->p_wGcd (dB b0) s1 (dB b2) s3/\∀b4:Bool,∀s5:Sl,R16 s5->∀x6:Int,Rng .i64 x6->q_wGcd (dB b0) s1 (dB b2) s3 (dB b4) s5 x6->q_fDivisor (dB b0) s1 (dB b2) s3 (dB b4) s5/\True
def V_fValid:Prop:=
∀b0:Bool,∀s1:Sl,R16 s1->∀b2:Bool,∀s3:Sl,R16 s3->p_fValid (dB b0) s1 (dB b2) s3->Small s1->(s1.len>256->q_fValid (dB b0) s1 (dB b2) s3 dF/\True)/\(¬s1.len>256->Small s3->(s3.len>256->q_fValid (dB b0) s1 (dB b2) s3 dF/\True)/\(¬s3.len>256->p_wValid (dB b0) s1/\∀b4:Bool,q_wValid (dB b0) s1 (dB b4)->
(¬b4=true->q_fValid (dB b0) s1 (dB b2) s3 dF/\True)/\(¬¬(b4=true)->p_wValid (dB b2) s3/\∀b5:Bool,q_wValid (dB b2) s3 (dB b5)->(¬b5=true->q_fValid (dB b0) s1 (dB b2) s3 dF/\True)/\(¬¬(b5=true)->(b2=true->q_fValid (dB b0) s1 (dB b2) s3 dF/\True)/\(¬b2=true-> Small s3->(s3.len=0->q_fValid (dB b0) s1 (dB b2) s3 dF/\True)/\(¬s3.len=0->(¬b2=true->Small s3->(s3.len=1->(0:Int)≤0/\(0:Int)<s3.len/\(Rng .u16 (s3.int 0 0)->((s3.int 0 0)=1->q_fValid (dB b0) s1 (dB b2) s3 dT/\True)/\(¬(s3.int 0 0)=1->p_fDivisor (dB b0) s1 (dB b2) s3/\∀b6:Bool,∀s7:Sl,R16 s7-> q_fDivisor (dB b0) s1 (dB b2) s3 (dB b6) s7->(¬b6=true->Small s7->(s7.len=1->(0:Int)≤0/\(0:Int)<s7.len/\(Rng .u16 (s7.int 0 0)->q_fValid (dB b0) s1 (dB b2) s3 (decide ((s7.int 0 0)=1))/\True))/\(¬s7.len=1->q_fValid (dB b0) s1 (dB b2) s3 dF/\True))/\(¬¬(b6=true)-> q_fValid (dB b0) s1 (dB b2) s3 dF/\True))))/\(¬s3.len=1->p_fDivisor (dB b0) s1 (dB b2) s3/\∀b6:Bool,∀s7:Sl,R16 s7->q_fDivisor (dB b0) s1 (dB b2) s3 (dB b6) s7->(¬b6=true->Small s7->(s7.len=1->(0:Int)≤0/\(0:Int)<s7.len/\(Rng .u16 (s7.int 0 0)->q_fValid (dB b0) s1 (dB b2) s3 (decide ((s7.int 0 0)=1))/\True))/\(¬s7.len=1-> q_fValid (dB b0) s1 (dB b2) s3 dF/\True))/\(¬¬(b6=true)->q_fValid (dB b0) s1 (dB b2) s3 dF/\True)))/\(¬¬(b2=true)->p_fDivisor (dB b0) s1 (dB b2) s3/\∀b6:Bool,∀s7:Sl,R16 s7->q_fDivisor (dB b0) s1 (dB b2) s3 (dB b6) s7->(¬b6=true->Small s7->(s7.len=1->
(0:Int)≤0/\(0:Int)<s7.len/\(Rng .u16 (s7.int 0 0)->q_fValid (dB b0) s1 (dB b2) s3 (decide ((s7.int 0 0)=1))/\True))/\(¬s7.len=1->q_fValid (dB b0) s1 (dB b2) s3 dF/\True))/\(¬¬(b6=true)->q_fValid (dB b0) s1 (dB b2) s3 dF/\True))))))))
end Go.Sx.N
