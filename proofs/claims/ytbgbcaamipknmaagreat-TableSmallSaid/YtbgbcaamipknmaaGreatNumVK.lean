/-
  The conditions of the functions. Conditions: none; printed by a program of our own.
-/
import Derived.Test.YtbgbcaamipknmaaGreatNumBase
set_option maxRecDepth 20000
namespace Go.Sx.N
open IntKind (wrap)
def V_kSameLimbs:Prop:=
∀s0:Sl,R16 s0->∀s1:Sl,R16 s1->p_kSameLimbs s0 s1->Small s0->Small s1->(s0.len≠s1.len->q_kSameLimbs s0 s1 dF/\True)/\(¬s0.len≠s1.len->∃(J2:Int->Prop)(M2:Int->Nat),J2 0/\∀x3:Int,Rng .i64 x3->J2 x3->Small s0->(x3<s0.len->(0:Int)≤x3/\x3<s0.len/\(Rng .u16 (s0.int x3 0)->
(0:Int)≤x3/\x3<s1.len/\(Rng .u16 (s1.int x3 0)->((s0.int x3 0)≠(s1.int x3 0)->q_kSameLimbs s0 s1 dF/\True)/\(¬(s0.int x3 0)≠(s1.int x3 0)->Rng .i64 (x3+1)/\J2 (x3+1)/\M2 (x3+1)<M2 x3))))/\(¬x3<s0.len->q_kSameLimbs s0 s1 dT/\True))
def V_kSameWhole:Prop:=
∀b0:Bool,∀s1:Sl,R16 s1->∀b2:Bool,∀s3:Sl,R16 s3->p_kSameWhole (dB b0) s1 (dB b2) s3->(((b0=true)↔(b2=true))->p_kSameLimbs s1 s3/\∀b4:Bool,q_kSameLimbs s1 s3 (dB b4)->q_kSameWhole (dB b0) s1 (dB b2) s3 (dB b4)/\True)/\(¬((b0=true)↔(b2=true))-> q_kSameWhole (dB b0) s1 (dB b2) s3 dF/\True)
def V_kSameFrac:Prop:=
∀b0:Bool,∀s1:Sl,R16 s1->∀b2:Bool,∀s3:Sl,R16 s3->∀b4:Bool,∀s5:Sl,R16 s5->∀b6:Bool,∀s7:Sl,R16 s7->p_kSameFrac (dB b0) s1 (dB b2) s3 (dB b4) s5 (dB b6) s7->p_kSameWhole (dB b0) s1 (dB b4) s5/\∀b8:Bool,q_kSameWhole (dB b0) s1 (dB b4) s5 (dB b8)->
(b8=true->p_kSameWhole (dB b2) s3 (dB b6) s7/\∀b9:Bool,q_kSameWhole (dB b2) s3 (dB b6) s7 (dB b9)->q_kSameFrac (dB b0) s1 (dB b2) s3 (dB b4) s5 (dB b6) s7 (dB b9)/\True)/\(¬b8=true->q_kSameFrac (dB b0) s1 (dB b2) s3 (dB b4) s5 (dB b6) s7 dF/\True)
end Go.Sx.N
