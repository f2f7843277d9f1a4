/-
  The contracts, one after another. Conditions: none; printed by a program of our own.
-/
import Derived.Test.YtjljnieafhdkgaaGreatDoorNumJAll
import Derived.Test.YtjljnieafhdkgaaGreatDoorNumFb
import Derived.Test.YtjljnieafhdkgaaGreatDoorNumFc
import Derived.Test.YtjljnieafhdkgaaGreatDoorIdxFe
import Derived.Test.YtjljnieafhdkgaaGreatDoorIdxTd
import Derived.Test.YtjljnieafhdkgaaGreatDoorInsD
namespace Go.Sx.N
open Go.Proofs
theorem pms_ok : ∀ g q, pms g = some q → PrimOk Tryz.prog g q := fun g q h => by
  unfold pms at h
  split at h
  · cases h; exact Go.Sx.Ins.insOK
  · cases h
theorem o_Sub32 : OKA b1 := nxA (SigOk.none pms_ok) j_Sub32 Sub32_ok rfl
theorem o_Add32 : OKA b2 := nxA o_Sub32 j_Add32 Add32_ok rfl
theorem o_Len32 : OKA b3 := nxA o_Add32 j_Len32 Len32_ok rfl
theorem o_Lz32 : OKA b4 := nxA o_Len32 j_Lz32 Lz32_ok rfl
theorem o_Div32 : OKA b5 := nxA o_Lz32 j_Div32 Div32_ok rfl
theorem o_Clone32 : OKA b6 := nxA o_Div32 j_Clone32 Clone32_ok rfl
theorem o_trim : OKA b7 := nxA o_Clone32 j_trim trim_ok rfl
theorem o_pack : OKA b8 := nxA o_trim j_pack pack_ok rfl
theorem o_unpack : OKA b9 := nxA o_pack j_unpack unpack_ok rfl
theorem o_long : OKA b10 := nxA o_unpack j_long long_ok rfl
theorem o_short : OKA b11 := nxA o_long j_short short_ok rfl
theorem o_compare : OKA b12 := nxA o_short j_compare compare_ok rfl
theorem o_divideShort : OKA b13 := nxA o_compare j_divideShort divideShort_ok rfl
theorem o_shifted : OKA b14 := nxA o_divideShort j_shifted shifted_ok rfl
theorem o_divide : OKA b15 := nxA o_shifted j_divide divide_ok rfl
theorem o_head : OKA b16 := nxA o_divide j_head head_ok rfl
theorem o_simulate : OKA b17 := nxA o_head j_simulate simulate_ok rfl
theorem o_difference : OKA b18 := nxA o_simulate j_difference difference_ok rfl
theorem o_commonDivisor : OKA b19 := nxA o_difference j_commonDivisor commonDivisor_ok rfl
theorem o_plus : OKA b20 := nxA o_commonDivisor j_plus plus_ok rfl
theorem o_minus : OKA b21 := nxA o_plus j_minus minus_ok rfl
theorem o_times : OKA b22 := nxA o_minus j_times times_ok rfl
theorem o_Clone16 : OKA b23 := nxA o_times j_Clone16 Clone16_ok rfl
theorem o_wValid : OKA b24 := nxA o_Clone16 j_wValid wValid_ok rfl
theorem o_wAllValid : OKA b25 := nxA o_wValid j_wAllValid wAllValid_ok rfl
theorem o_wFromInt : OKA b26 := nxA o_wAllValid j_wFromInt wFromInt_ok rfl
theorem o_result : OKA b27 := nxA o_wFromInt j_result result_ok rfl
theorem o_sum : OKA b28 := nxA o_result j_sum sum_ok rfl
theorem o_wAdd : OKA b29 := nxA o_sum j_wAdd wAdd_ok rfl
theorem o_wMul : OKA b30 := nxA o_wAdd j_wMul wMul_ok rfl
theorem o_wDivMod : OKA b31 := nxA o_wMul j_wDivMod wDivMod_ok rfl
theorem o_wGcd : OKA b32 := nxA o_wDivMod j_wGcd wGcd_ok rfl
theorem o_opposite : OKA b33 := nxA o_wGcd j_opposite opposite_ok rfl
theorem o_fDivisor : OKA b34 := nxA o_opposite j_fDivisor fDivisor_ok rfl
theorem o_fPlus : OKA b35 := nxA o_fDivisor j_fPlus fPlus_ok rfl
theorem o_fTimes : OKA b36 := nxA o_fPlus j_fTimes fTimes_ok rfl
theorem o_fDivide : OKA b37 := nxA o_fTimes j_fDivide fDivide_ok rfl
theorem o_lowest : OKA b38 := nxA o_fDivide j_lowest lowest_ok rfl
theorem o_fValid : OKA b39 := nxA o_lowest j_fValid fValid_ok rfl
theorem o_fAllValid : OKA b40 := nxA o_fValid j_fAllValid fAllValid_ok rfl
theorem o_fFromInt : OKA b41 := nxA o_fAllValid j_fFromInt fFromInt_ok rfl
theorem o_fAdd : OKA b42 := nxA o_fFromInt j_fAdd fAdd_ok rfl
theorem o_fMul : OKA b43 := nxA o_fAdd j_fMul fMul_ok rfl
theorem o_fDiv : OKA b44 := nxA o_fMul j_fDiv fDiv_ok rfl
theorem o_kSameLimbs : OKA b45 := nxA o_fDiv j_kSameLimbs kSameLimbs_ok rfl
theorem o_kSameWhole : OKA b46 := nxA o_kSameLimbs j_kSameWhole kSameWhole_ok rfl
theorem o_kSameFrac : OKA b47 := nxA o_kSameWhole j_kSameFrac kSameFrac_ok rfl
theorem o_kPick : OKA b48 := nxA o_kSameFrac j_kPick kPick_ok rfl
theorem o_kWhole : OKA b49 := nxA o_kPick j_kWhole kWhole_ok rfl
theorem o_kFrac : OKA b50 := nxA o_kWhole j_kFrac kFrac_ok rfl
theorem o_kLimbs : OKA b51 := nxA o_kFrac j_kLimbs kLimbs_ok rfl
theorem o_cmpI : OKA b52 := nxA o_kLimbs j_cmpI cmpI_ok rfl
theorem o_cmpOr : OKA b53 := nxA o_cmpI j_cmpOr cmpOr_ok rfl
theorem o_tCompare : OKA b54 := nxA o_cmpOr j_tCompare tCompare_ok rfl
theorem o_Right : OKA b55 := nxA o_tCompare j_Right Right_ok rfl
theorem o_tValid : OKA b56 := nxA o_Right j_tValid tValid_ok rfl
theorem o_copied : OKA b57 := nxA o_tValid j_copied copied_ok rfl
theorem o_forced : OKA b58 := nxA o_copied j_forced forced_ok rfl
theorem o_Look : OKA b59 := nxA o_forced j_Look Look_ok rfl
theorem o_Learn : OKA b60 := nxA o_Look j_Learn Learn_ok rfl
theorem o_cLeap : OKA b61 := nxA o_Learn j_cLeap cLeap_ok rfl
theorem o_cLeaps : OKA b62 := nxA o_cLeap j_cLeaps cLeaps_ok rfl
theorem o_cLen : OKA b63 := nxA o_cLeaps j_cLen cLen_ok rfl
theorem o_cStart : OKA b64 := nxA o_cLen j_cStart cStart_ok rfl
theorem o_cIsDate : OKA b65 := nxA o_cStart j_cIsDate cIsDate_ok rfl
theorem o_cDay : OKA b66 := nxA o_cIsDate j_cDay cDay_ok rfl
theorem o_isSpan : OKA b67 := nxA o_cDay j_isSpan isSpan_ok rfl
theorem o_xYears : OKA b68 := nxA o_isSpan j_xYears xYears_ok rfl
theorem o_xGrow : OKA b69 := nxA o_xYears j_xGrow xGrow_ok rfl
theorem o_xRaise : OKA b70 := nxA o_xGrow j_xRaise xRaise_ok rfl
theorem o_xLower : OKA b71 := nxA o_xRaise j_xLower xLower_ok rfl
theorem o_kSameInts : OKA b72 := nxA o_xLower j_kSameInts kSameInts_ok rfl
theorem o_rLeap3 : OKA b73 := nxA o_kSameInts j_rLeap3 rLeap3_ok rfl
theorem o_rLen3 : OKA b74 := nxA o_rLeap3 j_rLen3 rLen3_ok rfl
theorem o_rDay : OKA b75 := nxA o_rLen3 j_rDay rDay_ok rfl
theorem o_rYears : OKA b76 := nxA o_rDay j_rYears rYears_ok rfl
theorem o_iRow : OKA b77 := nxA o_rYears j_iRow iRow_ok rfl
theorem o_cpi : OKA b78 := nxA o_iRow j_cpi cpi_ok rfl
theorem o_iOne : OKA b79 := nxA o_cpi j_iOne iOne_ok rfl
theorem o_xAwake : OKA b80 := nxA o_iOne j_xAwake xAwake_ok rfl
theorem o_yearsL : OKA b81 := nxA o_xAwake j_yearsL yearsL_ok rfl
theorem o_iBuilt : OKA b82 := nxA o_yearsL j_iBuilt iBuilt_ok rfl
theorem o_asked : OKA b83 := nxA o_iBuilt j_asked asked_ok rfl
end Go.Sx.N
