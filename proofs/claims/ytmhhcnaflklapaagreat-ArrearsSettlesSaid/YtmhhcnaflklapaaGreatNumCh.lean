/-
  The contracts, one after another. Conditions: none; printed by a program of our own.
-/
import Derived.Test.YtmhhcnaflklapaaGreatNumJAll
import Derived.Test.YtmhhcnaflklapaaGreatNumFb
import Derived.Test.YtmhhcnaflklapaaGreatNumFc
import Derived.Test.YtmhhcnaflklapaaGreatArrFz
namespace Go.Sx.N
open Go.Proofs
theorem o_Sub32 : SigOk Tb (cfgAt b1) := s_Sub32 SigOk.none Sub32_ok
theorem o_Add32 : SigOk Tb (cfgAt b2) := s_Add32 o_Sub32 Add32_ok
theorem o_Len32 : SigOk Tb (cfgAt b3) := s_Len32 o_Add32 Len32_ok
theorem o_Lz32 : SigOk Tb (cfgAt b4) := s_Lz32 o_Len32 Lz32_ok
theorem o_Div32 : SigOk Tb (cfgAt b5) := s_Div32 o_Lz32 Div32_ok
theorem o_Clone32 : SigOk Tb (cfgAt b6) := s_Clone32 o_Div32 Clone32_ok
theorem o_trim : SigOk Tb (cfgAt b7) := s_trim o_Clone32 trim_ok
theorem o_pack : SigOk Tb (cfgAt b8) := s_pack o_trim pack_ok
theorem o_unpack : SigOk Tb (cfgAt b9) := s_unpack o_pack unpack_ok
theorem o_long : SigOk Tb (cfgAt b10) := s_long o_unpack long_ok
theorem o_short : SigOk Tb (cfgAt b11) := s_short o_long short_ok
theorem o_compare : SigOk Tb (cfgAt b12) := s_compare o_short compare_ok
theorem o_divideShort : SigOk Tb (cfgAt b13) := s_divideShort o_compare divideShort_ok
theorem o_shifted : SigOk Tb (cfgAt b14) := s_shifted o_divideShort shifted_ok
theorem o_divide : SigOk Tb (cfgAt b15) := s_divide o_shifted divide_ok
theorem o_head : SigOk Tb (cfgAt b16) := s_head o_divide head_ok
theorem o_simulate : SigOk Tb (cfgAt b17) := s_simulate o_head simulate_ok
theorem o_difference : SigOk Tb (cfgAt b18) := s_difference o_simulate difference_ok
theorem o_commonDivisor : SigOk Tb (cfgAt b19) := s_commonDivisor o_difference commonDivisor_ok
theorem o_plus : SigOk Tb (cfgAt b20) := s_plus o_commonDivisor plus_ok
theorem o_minus : SigOk Tb (cfgAt b21) := s_minus o_plus minus_ok
theorem o_times : SigOk Tb (cfgAt b22) := s_times o_minus times_ok
theorem o_Clone16 : SigOk Tb (cfgAt b23) := s_Clone16 o_times Clone16_ok
theorem o_wValid : SigOk Tb (cfgAt b24) := s_wValid o_Clone16 wValid_ok
theorem o_wAllValid : SigOk Tb (cfgAt b25) := s_wAllValid o_wValid wAllValid_ok
theorem o_wFromInt : SigOk Tb (cfgAt b26) := s_wFromInt o_wAllValid wFromInt_ok
theorem o_wInt : SigOk Tb (cfgAt b27) := s_wInt o_wFromInt wInt_ok
theorem o_result : SigOk Tb (cfgAt b28) := s_result o_wInt result_ok
theorem o_sum : SigOk Tb (cfgAt b29) := s_sum o_result sum_ok
theorem o_wAdd : SigOk Tb (cfgAt b30) := s_wAdd o_sum wAdd_ok
theorem o_wMul : SigOk Tb (cfgAt b31) := s_wMul o_wAdd wMul_ok
theorem o_wDivMod : SigOk Tb (cfgAt b32) := s_wDivMod o_wMul wDivMod_ok
theorem o_wGcd : SigOk Tb (cfgAt b33) := s_wGcd o_wDivMod wGcd_ok
theorem o_wCmp : SigOk Tb (cfgAt b34) := s_wCmp o_wGcd wCmp_ok
theorem o_opposite : SigOk Tb (cfgAt b35) := s_opposite o_wCmp opposite_ok
theorem o_fDivisor : SigOk Tb (cfgAt b36) := s_fDivisor o_opposite fDivisor_ok
theorem o_fPlus : SigOk Tb (cfgAt b37) := s_fPlus o_fDivisor fPlus_ok
theorem o_fTimes : SigOk Tb (cfgAt b38) := s_fTimes o_fPlus fTimes_ok
theorem o_fDivide : SigOk Tb (cfgAt b39) := s_fDivide o_fTimes fDivide_ok
theorem o_lowest : SigOk Tb (cfgAt b40) := s_lowest o_fDivide lowest_ok
theorem o_fValid : SigOk Tb (cfgAt b41) := s_fValid o_lowest fValid_ok
theorem o_fAllValid : SigOk Tb (cfgAt b42) := s_fAllValid o_fValid fAllValid_ok
theorem o_fFromInt : SigOk Tb (cfgAt b43) := s_fFromInt o_fAllValid fFromInt_ok
theorem o_fAdd : SigOk Tb (cfgAt b44) := s_fAdd o_fFromInt fAdd_ok
theorem o_fMul : SigOk Tb (cfgAt b45) := s_fMul o_fAdd fMul_ok
theorem o_fDiv : SigOk Tb (cfgAt b46) := s_fDiv o_fMul fDiv_ok
theorem o_fCmp : SigOk Tb (cfgAt b47) := s_fCmp o_fDiv fCmp_ok
theorem o_fInt : SigOk Tb (cfgAt b48) := s_fInt o_fCmp fInt_ok
theorem o_fRound : SigOk Tb (cfgAt b49) := s_fRound o_fInt fRound_ok
theorem o_kWhole : SigOk Tb (cfgAt b50) := s_kWhole o_fRound kWhole_ok
theorem o_kFrac : SigOk Tb (cfgAt b51) := s_kFrac o_kWhole kFrac_ok
theorem o_cmpI : SigOk Tb (cfgAt b52) := s_cmpI o_kFrac cmpI_ok
theorem o_cmpOr : SigOk Tb (cfgAt b53) := s_cmpOr o_cmpI cmpOr_ok
theorem o_tCompare : SigOk Tb (cfgAt b54) := s_tCompare o_cmpOr tCompare_ok
theorem o_Right : SigOk Tb (cfgAt b55) := s_Right o_tCompare Right_ok
theorem o_tValid : SigOk Tb (cfgAt b56) := s_tValid o_Right tValid_ok
theorem o_copied : SigOk Tb (cfgAt b57) := s_copied o_tValid copied_ok
theorem o_forced : SigOk Tb (cfgAt b58) := s_forced o_copied forced_ok
theorem o_Look : SigOk Tb (cfgAt b59) := s_Look o_forced Look_ok
theorem o_has : SigOk Tb (cfgAt b60) := s_has o_Look has_ok
theorem o_follow : SigOk Tb (cfgAt b61) := s_follow o_has follow_ok
theorem o_Valid : SigOk Tb (cfgAt b62) := s_Valid o_follow Valid_ok
theorem o_posted : SigOk Tb (cfgAt b63) := s_posted o_Valid posted_ok
theorem o_Open : SigOk Tb (cfgAt b64) := s_Open o_posted Open_ok
theorem o_Total : SigOk Tb (cfgAt b65) := s_Total o_Open Total_ok
theorem o_Same : SigOk Tb (cfgAt b66) := s_Same o_Total Same_ok
theorem o_Concat : SigOk Tb (cfgAt b67) := s_Concat o_Same Concat_ok
theorem o_Post : SigOk Tb (cfgAt b68) := s_Post o_Concat Post_ok
theorem o_aShort : SigOk Tb (cfgAt b69) := s_aShort o_Post aShort_ok
theorem o_aFirst : SigOk Tb (cfgAt b70) := s_aFirst o_aShort aFirst_ok
theorem o_aAmount : SigOk Tb (cfgAt b71) := s_aAmount o_aFirst aAmount_ok
theorem o_Interest : SigOk Tb (cfgAt b72) := s_Interest o_aAmount Interest_ok
theorem o_Late : SigOk Tb (cfgAt b73) := s_Late o_Interest Late_ok
theorem o_Owed : SigOk Tb (cfgAt b74) := s_Owed o_Late Owed_ok
theorem o_Owe : SigOk Tb (cfgAt b75) := s_Owe o_Owed Owe_ok
theorem o_Settle : SigOk Tb (cfgAt b76) := s_Settle o_Owe Settle_ok
theorem o_part : SigOk Tb (cfgAt b77) := s_part o_Settle part_ok
theorem o_rates : SigOk Tb (cfgAt b78) := s_rates o_part rates_ok
theorem o_yearly : SigOk Tb (cfgAt b79) := s_yearly o_rates yearly_ok
theorem o_lPosted : SigOk Tb (cfgAt b80) := s_lPosted o_yearly lPosted_ok
theorem o_paids : SigOk Tb (cfgAt b81) := s_paids o_lPosted paids_ok
theorem o_near : SigOk Tb (cfgAt b82) := s_near o_paids near_ok
theorem o_few : SigOk Tb (cfgAt b83) := s_few o_near few_ok
theorem o_aAwake : SigOk Tb (cfgAt b84) := s_aAwake o_few aAwake_ok
end Go.Sx.N
