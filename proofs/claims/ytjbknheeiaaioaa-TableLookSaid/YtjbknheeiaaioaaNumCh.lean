/-
  The contracts, one after another. Conditions: none; printed by a program of our own.
-/
import Derived.Test.YtjbknheeiaaioaaNumJAll
import Derived.Test.YtjbknheeiaaioaaNumFb
import Derived.Test.YtjbknheeiaaioaaNumFc
import Derived.Test.YtjbknheeiaaioaaTabFe
namespace Go.Sx.N
open Go.Proofs
theorem o_Sub32 : SigOk Tb (cfgAt b1) := s_Sub32 SigOk.none Sub32_ok
theorem o_Add32 : SigOk Tb (cfgAt b2) := s_Add32 o_Sub32 Add32_ok
theorem o_Len32 : SigOk Tb (cfgAt b3) := s_Len32 o_Add32 Len32_ok
theorem o_Lz32 : SigOk Tb (cfgAt b4) := s_Lz32 o_Len32 Lz32_ok
theorem o_Div32 : SigOk Tb (cfgAt b5) := s_Div32 o_Lz32 Div32_ok
theorem o_Clone32 : SigOk Tb (cfgAt b6) := s_Clone32 o_Div32 Clone32_ok
theorem o_trim : SigOk Tb (cfgAt b7) := s_trim o_Clone32 trim_ok
theorem o_pack : SigOk Tb (cfgAt b8) := s_pack o_trim pack_ok
theorem o_unpack : SigOk Tb (cfgAt b9) := s_unpack o_pack unpack_ok
theorem o_long : SigOk Tb (cfgAt b10) := s_long o_unpack long_ok
theorem o_short : SigOk Tb (cfgAt b11) := s_short o_long short_ok
theorem o_compare : SigOk Tb (cfgAt b12) := s_compare o_short compare_ok
theorem o_divideShort : SigOk Tb (cfgAt b13) := s_divideShort o_compare divideShort_ok
theorem o_shifted : SigOk Tb (cfgAt b14) := s_shifted o_divideShort shifted_ok
theorem o_divide : SigOk Tb (cfgAt b15) := s_divide o_shifted divide_ok
theorem o_head : SigOk Tb (cfgAt b16) := s_head o_divide head_ok
theorem o_simulate : SigOk Tb (cfgAt b17) := s_simulate o_head simulate_ok
theorem o_difference : SigOk Tb (cfgAt b18) := s_difference o_simulate difference_ok
theorem o_commonDivisor : SigOk Tb (cfgAt b19) := s_commonDivisor o_difference commonDivisor_ok
theorem o_Clone16 : SigOk Tb (cfgAt b20) := s_Clone16 o_commonDivisor Clone16_ok
theorem o_wValid : SigOk Tb (cfgAt b21) := s_wValid o_Clone16 wValid_ok
theorem o_wAllValid : SigOk Tb (cfgAt b22) := s_wAllValid o_wValid wAllValid_ok
theorem o_wGcd : SigOk Tb (cfgAt b23) := s_wGcd o_wAllValid wGcd_ok
theorem o_fDivisor : SigOk Tb (cfgAt b24) := s_fDivisor o_wGcd fDivisor_ok
theorem o_fValid : SigOk Tb (cfgAt b25) := s_fValid o_fDivisor fValid_ok
theorem o_kSameLimbs : SigOk Tb (cfgAt b26) := s_kSameLimbs o_fValid kSameLimbs_ok
theorem o_kSameWhole : SigOk Tb (cfgAt b27) := s_kSameWhole o_kSameLimbs kSameWhole_ok
theorem o_kSameFrac : SigOk Tb (cfgAt b28) := s_kSameFrac o_kSameWhole kSameFrac_ok
theorem o_kWhole : SigOk Tb (cfgAt b29) := s_kWhole o_kSameFrac kWhole_ok
theorem o_kFrac : SigOk Tb (cfgAt b30) := s_kFrac o_kWhole kFrac_ok
theorem o_kLimbs : SigOk Tb (cfgAt b31) := s_kLimbs o_kFrac kLimbs_ok
theorem o_cmpI : SigOk Tb (cfgAt b32) := s_cmpI o_kLimbs cmpI_ok
theorem o_cmpOr : SigOk Tb (cfgAt b33) := s_cmpOr o_cmpI cmpOr_ok
theorem o_tCompare : SigOk Tb (cfgAt b34) := s_tCompare o_cmpOr tCompare_ok
theorem o_Right : SigOk Tb (cfgAt b35) := s_Right o_tCompare Right_ok
theorem o_tValid : SigOk Tb (cfgAt b36) := s_tValid o_Right tValid_ok
theorem o_copied : SigOk Tb (cfgAt b37) := s_copied o_tValid copied_ok
theorem o_forced : SigOk Tb (cfgAt b38) := s_forced o_copied forced_ok
theorem o_View : SigOk Tb (cfgAt b39) := s_View o_forced View_ok
theorem o_Look : SigOk Tb (cfgAt b40) := s_Look o_View Look_ok
theorem o_LookTwo : SigOk Tb (cfgAt b41) := s_LookTwo o_Look LookTwo_ok
theorem o_kSameRow : SigOk Tb (cfgAt b42) := s_kSameRow o_LookTwo kSameRow_ok
theorem o_kSameRows : SigOk Tb (cfgAt b43) := s_kSameRows o_kSameRow kSameRows_ok
theorem o_kSameTable : SigOk Tb (cfgAt b44) := s_kSameTable o_kSameRows kSameTable_ok
theorem o_Pool : SigOk Tb (cfgAt b45) := s_Pool o_kSameTable Pool_ok
theorem o_tRow : SigOk Tb (cfgAt b46) := s_tRow o_Pool tRow_ok
theorem o_tOf : SigOk Tb (cfgAt b47) := s_tOf o_tRow tOf_ok
theorem o_tLess : SigOk Tb (cfgAt b48) := s_tLess o_tOf tLess_ok
theorem o_Built : SigOk Tb (cfgAt b49) := s_Built o_tLess Built_ok
theorem o_holds : SigOk Tb (cfgAt b50) := s_holds o_Built holds_ok
theorem o_awake : SigOk Tb (cfgAt b51) := s_awake o_holds awake_ok
end Go.Sx.N
