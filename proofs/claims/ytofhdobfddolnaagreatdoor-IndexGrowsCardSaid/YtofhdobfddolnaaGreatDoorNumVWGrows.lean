/-
  The conditions of the functions. Conditions: none; printed by a program of our own.
-/
import Derived.Test.YtofhdobfddolnaaGreatDoorGroSpec
set_option maxRecDepth 20000
namespace Go.Sx.N
open IntKind (wrap)
def V_WGrows:Prop:=
∀ b0:Bool,∀ s1:Sl,R16 s1->∀ b2:Bool,∀ s3:Sl,R16 s3->∀ y4:ByteArray,∀ b5:Bool,∀ s6:Sl,Ranged s6 [some .i64,some .i64,some .i64,none,none,none,none]->∀ x7:Int,Rng .i64 x7->∀ x8:Int,Rng .i64 x8->∀ x9:Int,Rng .i64 x9->p_WGrows (dB b0) s1 (dB b2) s3 y4 (dB b5) s6 x7 x8 x9-> p_Few y4 (dB b5) s6/\∀ b10:Bool,q_Few y4 (dB b5) s6 (dB b10)->(¬b10=true->p_xAwake/\∀ b11:Bool,q_xAwake  (dB b11)->q_WGrows (dB b0) s1 (dB b2) s3 y4 (dB b5) s6 x7 x8 x9 (dB b11)/\True)/\(¬¬ (b10=true)->p_kLimbs (dB b0) s1 (dB b2) s3/\∀ x11:Int,Rng .i64 x11-> q_kLimbs (dB b0) s1 (dB b2) s3 x11->(x11>600->p_xAwake/\∀ b12:Bool,q_xAwake  (dB b12)->q_WGrows (dB b0) s1 (dB b2) s3 y4 (dB b5) s6 x7 x8 x9 (dB b12)/\True)/\(¬x11>600->p_grows (dB b0) s1 (dB b2) s3 y4 (dB b5) s6 x7 x8 x9/\∀ b12:Bool,q_grows (dB b0) s1 (dB b2) s3 y4 (dB b5) s6 x7 x8 x9 (dB b12)->
(b12=true->p_xAwake/\∀ b13:Bool,q_xAwake  (dB b13)->q_WGrows (dB b0) s1 (dB b2) s3 y4 (dB b5) s6 x7 x8 x9 (dB b13)/\True)/\(¬b12=true->q_WGrows (dB b0) s1 (dB b2) s3 y4 (dB b5) s6 x7 x8 x9 dF/\True)))
end Go.Sx.N
