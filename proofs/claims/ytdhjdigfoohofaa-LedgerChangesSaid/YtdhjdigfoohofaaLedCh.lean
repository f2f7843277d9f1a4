/-
  The contracts, one after another. Conditions: none; printed by a program of our own.
-/
import Derived.Test.YtdhjdigfoohofaaLedJAll
import Derived.Test.YtdhjdigfoohofaaLedFz
namespace Go.Sx.N
open Go.Proofs
theorem o_has : SigOk Tb (cfgAt b1) := s_has SigOk.none has_ok
theorem o_follow : SigOk Tb (cfgAt b2) := s_follow o_has follow_ok
theorem o_Valid : SigOk Tb (cfgAt b3) := s_Valid o_follow Valid_ok
theorem o_posted : SigOk Tb (cfgAt b4) := s_posted o_Valid posted_ok
theorem o_Open : SigOk Tb (cfgAt b5) := s_Open o_posted Open_ok
theorem o_Balance : SigOk Tb (cfgAt b6) := s_Balance o_Open Balance_ok
theorem o_Learn : SigOk Tb (cfgAt b7) := s_Learn o_Balance Learn_ok
theorem o_At : SigOk Tb (cfgAt b8) := s_At o_Learn At_ok
theorem o_Same : SigOk Tb (cfgAt b9) := s_Same o_At Same_ok
theorem o_Few : SigOk Tb (cfgAt b10) := s_Few o_Same Few_ok
theorem o_example : SigOk Tb (cfgAt b11) := s_example o_Few example_ok
theorem o_awake : SigOk Tb (cfgAt b12) := s_awake o_example awake_ok
theorem o_copied : SigOk Tb (cfgAt b13) := s_copied o_awake copied_ok
theorem o_rHas : SigOk Tb (cfgAt b14) := s_rHas o_copied rHas_ok
theorem o_rRight : SigOk Tb (cfgAt b15) := s_rRight o_rHas rRight_ok
theorem o_rPosts : SigOk Tb (cfgAt b16) := s_rPosts o_rRight rPosts_ok
theorem o_rValid : SigOk Tb (cfgAt b17) := s_rValid o_rPosts rValid_ok
theorem o_Concat : SigOk Tb (cfgAt b18) := s_Concat o_rValid Concat_ok
theorem o_Post : SigOk Tb (cfgAt b19) := s_Post o_Concat Post_ok
theorem o_rPost : SigOk Tb (cfgAt b20) := s_rPost o_Post rPost_ok
theorem o_rLearn : SigOk Tb (cfgAt b21) := s_rLearn o_rPost rLearn_ok
end Go.Sx.N
