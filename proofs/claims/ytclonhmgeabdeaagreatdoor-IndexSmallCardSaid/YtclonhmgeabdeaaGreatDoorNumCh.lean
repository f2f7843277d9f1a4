/-
 The contracts, one after another. Conditions: none; printed by a program of our own.
-/
import Derived.Test.YtclonhmgeabdeaaGreatDoorNumJAll
import Derived.Test.YtclonhmgeabdeaaGreatDoorNumFb
import Derived.Test.YtclonhmgeabdeaaGreatDoorNumFc
import Derived.Test.YtclonhmgeabdeaaGreatDoorGroF
import Derived.Test.YtclonhmgeabdeaaGreatDoorGroR
import Derived.Test.YtclonhmgeabdeaaGreatDoorGroZ
namespace Go.Sx.N
open Go.Proofs
theorem pms_ok : ∀ g q, pms g = some q -> ∀ e, q = .ins e -> PrimOk Tb Tryz.prog g q := fun g q h e he => by
 unfold pms at h
 split at h
 ·cases h; cases he
 ·cases h; cases he
 ·cases h; cases he
 ·cases h; cases he
 ·cases h
theorem o_Sub32 : OKA b1 := nxA (SigOk.none pms_ok) j_Sub32 Sub32_ok rfl rfl
theorem o_Add32 : OKA b2 := nxA o_Sub32 j_Add32 Add32_ok rfl rfl
theorem o_Len32 : OKA b3 := nxA o_Add32 j_Len32 Len32_ok rfl rfl
theorem o_Lz32 : OKA b4 := nxA o_Len32 j_Lz32 Lz32_ok rfl rfl
theorem o_Div32 : OKA b5 := nxA o_Lz32 j_Div32 Div32_ok rfl rfl
theorem o_Clone32 : OKA b6 := nxA o_Div32 j_Clone32 Clone32_ok rfl rfl
theorem o_trim : OKA b7 := nxA o_Clone32 j_trim trim_ok rfl rfl
theorem o_pack : OKA b8 := nxA o_trim j_pack pack_ok rfl rfl
theorem o_unpack : OKA b9 := nxA o_pack j_unpack unpack_ok rfl rfl
theorem o_long : OKA b10 := nxA o_unpack j_long long_ok rfl rfl
theorem o_short : OKA b11 := nxA o_long j_short short_ok rfl rfl
theorem o_compare : OKA b12 := nxA o_short j_compare compare_ok rfl rfl
theorem o_divideShort : OKA b13 := nxA o_compare j_divideShort divideShort_ok rfl rfl
theorem o_shifted : OKA b14 := nxA o_divideShort j_shifted shifted_ok rfl rfl
theorem o_divide : OKA b15 := nxA o_shifted j_divide divide_ok rfl rfl
theorem o_head : OKA b16 := nxA o_divide j_head head_ok rfl rfl
theorem o_simulate : OKA b17 := nxA o_head j_simulate simulate_ok rfl rfl
theorem o_difference : OKA b18 := nxA o_simulate j_difference difference_ok rfl rfl
theorem o_commonDivisor : OKA b19 := nxA o_difference j_commonDivisor commonDivisor_ok rfl rfl
theorem o_plus : OKA b20 := nxA o_commonDivisor j_plus plus_ok rfl rfl
theorem o_minus : OKA b21 := nxA o_plus j_minus minus_ok rfl rfl
theorem o_times : OKA b22 := nxA o_minus j_times times_ok rfl rfl
theorem o_Clone16 : OKA b23 := nxA o_times j_Clone16 Clone16_ok rfl rfl
theorem o_wValid : OKA b24 := nxA o_Clone16 j_wValid wValid_ok rfl rfl
theorem o_wAllValid : OKA b25 := nxA o_wValid j_wAllValid wAllValid_ok rfl rfl
theorem o_wFromInt : OKA b26 := nxA o_wAllValid j_wFromInt wFromInt_ok rfl rfl
theorem o_result : OKA b27 := nxA o_wFromInt j_result result_ok rfl rfl
theorem o_sum : OKA b28 := nxA o_result j_sum sum_ok rfl rfl
theorem o_wAdd : OKA b29 := nxA o_sum j_wAdd wAdd_ok rfl rfl
theorem o_wMul : OKA b30 := nxA o_wAdd j_wMul wMul_ok rfl rfl
theorem o_wDivMod : OKA b31 := nxA o_wMul j_wDivMod wDivMod_ok rfl rfl
theorem o_wGcd : OKA b32 := nxA o_wDivMod j_wGcd wGcd_ok rfl rfl
theorem o_opposite : OKA b33 := nxA o_wGcd j_opposite opposite_ok rfl rfl
theorem o_fDivisor : OKA b34 := nxA o_opposite j_fDivisor fDivisor_ok rfl rfl
theorem o_fPlus : OKA b35 := nxA o_fDivisor j_fPlus fPlus_ok rfl rfl
theorem o_fTimes : OKA b36 := nxA o_fPlus j_fTimes fTimes_ok rfl rfl
theorem o_fDivide : OKA b37 := nxA o_fTimes j_fDivide fDivide_ok rfl rfl
theorem o_lowest : OKA b38 := nxA o_fDivide j_lowest lowest_ok rfl rfl
theorem o_fValid : OKA b39 := nxA o_lowest j_fValid fValid_ok rfl rfl
theorem o_fAllValid : OKA b40 := nxA o_fValid j_fAllValid fAllValid_ok rfl rfl
theorem o_fFromInt : OKA b41 := nxA o_fAllValid j_fFromInt fFromInt_ok rfl rfl
theorem o_fAdd : OKA b42 := nxA o_fFromInt j_fAdd fAdd_ok rfl rfl
theorem o_fMul : OKA b43 := nxA o_fAdd j_fMul fMul_ok rfl rfl
theorem o_fDiv : OKA b44 := nxA o_fMul j_fDiv fDiv_ok rfl rfl
theorem o_rTrim : OKA b45 := nxA o_fDiv j_rTrim rTrim_ok rfl rfl
theorem o_rLess : OKA b46 := nxA o_rTrim j_rLess rLess_ok rfl rfl
theorem o_rPlus : OKA b47 := nxA o_rLess j_rPlus rPlus_ok rfl rfl
theorem o_rMinus : OKA b48 := nxA o_rPlus j_rMinus rMinus_ok rfl rfl
theorem o_rTimes : OKA b49 := nxA o_rMinus j_rTimes rTimes_ok rfl rfl
theorem o_rHalf : OKA b50 := nxA o_rTimes j_rHalf rHalf_ok rfl rfl
theorem o_rShort : OKA b51 := nxA o_rHalf j_rShort rShort_ok rfl rfl
theorem o_rDivided : OKA b52 := nxA o_rShort j_rDivided rDivided_ok rfl rfl
theorem o_rMake : OKA b53 := nxA o_rDivided j_rMake rMake_ok rfl rfl
theorem o_rValid1 : OKA b54 := nxA o_rMake j_rValid1 rValid1_ok rfl rfl
theorem o_rFromInt1 : OKA b55 := nxA o_rValid1 j_rFromInt1 rFromInt1_ok rfl rfl
theorem o_rSum1 : OKA b56 := nxA o_rFromInt1 j_rSum1 rSum1_ok rfl rfl
theorem o_rProduct1 : OKA b57 := nxA o_rSum1 j_rProduct1 rProduct1_ok rfl rfl
theorem o_rCommon : OKA b58 := nxA o_rProduct1 j_rCommon rCommon_ok rfl rfl
theorem o_rOne : OKA b59 := nxA o_rCommon j_rOne rOne_ok rfl rfl
theorem o_rFits : OKA b60 := nxA o_rOne j_rFits rFits_ok rfl rfl
theorem o_rLowest : OKA b61 := nxA o_rFits j_rLowest rLowest_ok rfl rfl
theorem o_rValid2 : OKA b62 := nxA o_rLowest j_rValid2 rValid2_ok rfl rfl
theorem o_rFromInt2 : OKA b63 := nxA o_rValid2 j_rFromInt2 rFromInt2_ok rfl rfl
theorem o_rPlus2 : OKA b64 := nxA o_rFromInt2 j_rPlus2 rPlus2_ok rfl rfl
theorem o_rTimes2 : OKA b65 := nxA o_rPlus2 j_rTimes2 rTimes2_ok rfl rfl
theorem o_kSameLimbs : OKA b66 := nxA o_rTimes2 j_kSameLimbs kSameLimbs_ok rfl rfl
theorem o_kSameWhole : OKA b67 := nxA o_kSameLimbs j_kSameWhole kSameWhole_ok rfl rfl
theorem o_kSameFrac : OKA b68 := nxA o_kSameWhole j_kSameFrac kSameFrac_ok rfl rfl
theorem o_kWhole : OKA b69 := nxA o_kSameFrac j_kWhole kWhole_ok rfl rfl
theorem o_kFrac : OKA b70 := nxA o_kWhole j_kFrac kFrac_ok rfl rfl
theorem o_cmpI : OKA b71 := nxA o_kFrac j_cmpI cmpI_ok rfl rfl
theorem o_cmpOr : OKA b72 := nxA o_cmpI j_cmpOr cmpOr_ok rfl rfl
theorem o_tCompare : OKA b73 := nxA o_cmpOr j_tCompare tCompare_ok rfl rfl
theorem o_Right : OKA b74 := nxA o_tCompare j_Right Right_ok rfl rfl
theorem o_tValid : OKA b75 := nxA o_Right j_tValid tValid_ok rfl rfl
theorem o_copied : OKA b76 := nxA o_tValid j_copied copied_ok rfl rfl
theorem o_forced : OKA b77 := nxA o_copied j_forced forced_ok rfl rfl
theorem o_Look : OKA b78 := nxA o_forced j_Look Look_ok rfl rfl
theorem o_kSameRow : OKA b79 := nxA o_Look j_kSameRow kSameRow_ok rfl rfl
theorem o_kSameRows : OKA b80 := nxA o_kSameRow j_kSameRows kSameRows_ok rfl rfl
theorem o_kSameTable : OKA b81 := nxA o_kSameRows j_kSameTable kSameTable_ok rfl rfl
theorem o_cLeap : OKA b82 := nxA o_kSameTable j_cLeap cLeap_ok rfl rfl
theorem o_cLeaps : OKA b83 := nxA o_cLeap j_cLeaps cLeaps_ok rfl rfl
theorem o_cLen : OKA b84 := nxA o_cLeaps j_cLen cLen_ok rfl rfl
theorem o_cStart : OKA b85 := nxA o_cLen j_cStart cStart_ok rfl rfl
theorem o_cIsDate : OKA b86 := nxA o_cStart j_cIsDate cIsDate_ok rfl rfl
theorem o_cDay : OKA b87 := nxA o_cIsDate j_cDay cDay_ok rfl rfl
theorem o_isSpan : OKA b88 := nxA o_cDay j_isSpan isSpan_ok rfl rfl
theorem o_xYears : OKA b89 := nxA o_isSpan j_xYears xYears_ok rfl rfl
theorem o_xGrow : OKA b90 := nxA o_xYears j_xGrow xGrow_ok rfl rfl
theorem o_xRaise : OKA b91 := nxA o_xGrow j_xRaise xRaise_ok rfl rfl
theorem o_xLower : OKA b92 := nxA o_xRaise j_xLower xLower_ok rfl rfl
theorem o_kSameInts : OKA b93 := nxA o_xLower j_kSameInts kSameInts_ok rfl rfl
theorem o_rLeap3 : OKA b94 := nxA o_kSameInts j_rLeap3 rLeap3_ok rfl rfl
theorem o_rLen3 : OKA b95 := nxA o_rLeap3 j_rLen3 rLen3_ok rfl rfl
theorem o_rDay : OKA b96 := nxA o_rLen3 j_rDay rDay_ok rfl rfl
theorem o_rYears : OKA b97 := nxA o_rDay j_rYears rYears_ok rfl rfl
theorem o_iRow : OKA b98 := nxA o_rYears j_iRow iRow_ok rfl rfl
theorem o_cpi : OKA b99 := nxA o_iRow j_cpi cpi_ok rfl rfl
theorem o_xAwake : OKA b100 := nxA o_cpi j_xAwake xAwake_ok rfl rfl
theorem o_yearsL : OKA b101 := nxA o_xAwake j_yearsL yearsL_ok rfl rfl
theorem o_kLentTable : OKA b102 := SigOk.more (l := b101) (f := 13) o_yearsL rfl ⟨Go.Sx.Lent.kLentTable_h, by kernel_rfl⟩ rfl
theorem o_kKeptTable : OKA b103 := SigOk.moreP (l := b102) (f := 21) o_kLentTable rfl rfl (Go.Sx.Lent.kKeptTable_h o_kLentTable (by kernel_rfl))
theorem o_kOverTable : OKA b104 := SigOk.moreP (l := b103) (f := 23) o_kKeptTable rfl rfl (Go.Sx.Lent.overTable_ok)
theorem o_tRight : OKA b105 := nxA o_kOverTable j_tRight tRight_ok rfl rfl
theorem o_tBefore : OKA b106 := nxA o_tRight j_tBefore tBefore_ok rfl rfl
theorem o_rTValid : OKA b107 := nxA o_tBefore j_rTValid rTValid_ok rfl rfl
theorem o_tForce : OKA b108 := nxA o_rTValid j_tForce tForce_ok rfl rfl
theorem o_rLook : OKA b109 := nxA o_tForce j_rLook rLook_ok rfl rfl
theorem o_kLentFrac : OKA b110 := SigOk.more (l := b109) (f := 14) o_rLook rfl ⟨Go.Sx.Lent.kLentFrac_h, by kernel_rfl⟩ rfl
theorem o_kKeptFrac : OKA b111 := SigOk.moreP (l := b110) (f := 22) o_kLentFrac rfl rfl (Go.Sx.Lent.kKeptFrac_h o_kLentFrac (by kernel_rfl))
theorem o_kOverFrac : OKA b112 := SigOk.moreP (l := b111) (f := 24) o_kKeptFrac rfl rfl (Go.Sx.Lent.overFrac_ok)
theorem o_rOver : OKA b113 := nxA o_kOverFrac j_rOver rOver_ok rfl rfl
theorem o_rZero : OKA b114 := nxA o_rOver j_rZero rZero_ok rfl rfl
theorem o_rAdd2 : OKA b115 := nxA o_rZero j_rAdd2 rAdd2_ok rfl rfl
theorem o_rMul2 : OKA b116 := nxA o_rAdd2 j_rMul2 rMul2_ok rfl rfl
theorem o_rDiv2 : OKA b117 := nxA o_rMul2 j_rDiv2 rDiv2_ok rfl rfl
theorem o_yGrow : OKA b118 := nxA o_rDiv2 j_yGrow yGrow_ok rfl rfl
theorem o_yRaise : OKA b119 := nxA o_yGrow j_yRaise yRaise_ok rfl rfl
theorem o_yLower : OKA b120 := nxA o_yRaise j_yLower yLower_ok rfl rfl
theorem o_grows : OKA b121 := nxA o_yLower j_grows grows_ok rfl rfl
end Go.Sx.N
