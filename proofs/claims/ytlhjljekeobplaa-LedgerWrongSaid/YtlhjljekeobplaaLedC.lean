/-
  The contracts, one after another. Conditions: none; printed by a program of our own.
-/
import Derived.Test.YtlhjljekeobplaaLedV
import Derived.Test.YtlhjljekeobplaaLedP7
import Derived.Test.YtlhjljekeobplaaLedPC
namespace Go.Sx.L
open Go.Proofs
theorem o_has : SigOk Tb (cfgAt [37]) := s_has SigOk.none has_ok
theorem o_follow : SigOk Tb (cfgAt [36, 37]) := s_follow o_has follow_ok
theorem o_Valid : SigOk Tb (cfgAt [15, 36, 37]) := s_Valid o_follow Valid_ok
theorem o_posted : SigOk Tb (cfgAt [38, 15, 36, 37]) := s_posted o_Valid posted_ok
theorem o_Posted : SigOk Tb (cfgAt [21, 38, 15, 36, 37]) := s_Posted o_posted Posted_ok
theorem o_Open : SigOk Tb (cfgAt [16, 21, 38, 15, 36, 37]) := s_Open o_Posted Open_ok
theorem o_Balance : SigOk Tb (cfgAt [17, 16, 21, 38, 15, 36, 37]) := s_Balance o_Open Balance_ok
theorem o_Total : SigOk Tb (cfgAt [22, 17, 16, 21, 38, 15, 36, 37]) := s_Total o_Balance Total_ok
theorem o_Learn : SigOk Tb (cfgAt [13, 22, 17, 16, 21, 38, 15, 36, 37]) := s_Learn o_Total Learn_ok
theorem o_At : SigOk Tb (cfgAt [23, 13, 22, 17, 16, 21, 38, 15, 36, 37]) := s_At o_Learn At_ok
theorem o_Same : SigOk Tb (cfgAt [14, 23, 13, 22, 17, 16, 21, 38, 15, 36, 37]) := s_Same o_At Same_ok
theorem o_Few : SigOk Tb (cfgAt [18, 14, 23, 13, 22, 17, 16, 21, 38, 15, 36, 37]) := s_Few o_Same Few_ok
theorem o_usable : SigOk Tb (cfgAt [11, 18, 14, 23, 13, 22, 17, 16, 21, 38, 15, 36, 37]) := s_usable o_Few usable_ok
theorem o_example : SigOk Tb (cfgAt [32, 11, 18, 14, 23, 13, 22, 17, 16, 21, 38, 15, 36, 37]) := s_example o_usable example_ok
theorem o_awake : SigOk Tb (cfgAt [12, 32, 11, 18, 14, 23, 13, 22, 17, 16, 21, 38, 15, 36, 37]) := s_awake o_example awake_ok
theorem o_copied : SigOk Tb (cfgAt [19, 12, 32, 11, 18, 14, 23, 13, 22, 17, 16, 21, 38, 15, 36, 37]) := s_copied o_awake copied_ok
theorem o_rHas : SigOk Tb (cfgAt [24, 19, 12, 32, 11, 18, 14, 23, 13, 22, 17, 16, 21, 38, 15, 36, 37]) := s_rHas o_copied rHas_ok
theorem o_rRight : SigOk Tb (cfgAt [51, 24, 19, 12, 32, 11, 18, 14, 23, 13, 22, 17, 16, 21, 38, 15, 36, 37]) := s_rRight o_rHas rRight_ok
theorem o_rPosts : SigOk Tb (cfgAt [44, 51, 24, 19, 12, 32, 11, 18, 14, 23, 13, 22, 17, 16, 21, 38, 15, 36, 37]) := s_rPosts o_rRight rPosts_ok
theorem o_rValid : SigOk Tb (cfgAt [20, 44, 51, 24, 19, 12, 32, 11, 18, 14, 23, 13, 22, 17, 16, 21, 38, 15, 36, 37]) := s_rValid o_rPosts rValid_ok
theorem o_rPosted : SigOk Tb (cfgAt [25, 20, 44, 51, 24, 19, 12, 32, 11, 18, 14, 23, 13, 22, 17, 16, 21, 38, 15, 36, 37]) := s_rPosted o_rValid rPosted_ok
theorem o_rBalance : SigOk Tb (cfgAt [27, 25, 20, 44, 51, 24, 19, 12, 32, 11, 18, 14, 23, 13, 22, 17, 16, 21, 38, 15, 36, 37]) := s_rBalance o_rPosted rBalance_ok
theorem o_rTotal : SigOk Tb (cfgAt [26, 27, 25, 20, 44, 51, 24, 19, 12, 32, 11, 18, 14, 23, 13, 22, 17, 16, 21, 38, 15, 36, 37]) := s_rTotal o_rBalance rTotal_ok
theorem o_rAt : SigOk Tb (cfgAt [28, 26, 27, 25, 20, 44, 51, 24, 19, 12, 32, 11, 18, 14, 23, 13, 22, 17, 16, 21, 38, 15, 36, 37]) := s_rAt o_rTotal rAt_ok
theorem o_Concat : SigOk Tb (cfgAt [47, 28, 26, 27, 25, 20, 44, 51, 24, 19, 12, 32, 11, 18, 14, 23, 13, 22, 17, 16, 21, 38, 15, 36, 37]) := s_Concat o_rAt Concat_ok
theorem o_Post : SigOk Tb (cfgAt [29, 47, 28, 26, 27, 25, 20, 44, 51, 24, 19, 12, 32, 11, 18, 14, 23, 13, 22, 17, 16, 21, 38, 15, 36, 37]) := s_Post o_Concat Post_ok
end Go.Sx.L
