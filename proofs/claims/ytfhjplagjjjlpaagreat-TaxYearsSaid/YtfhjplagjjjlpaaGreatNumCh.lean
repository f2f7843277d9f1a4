/-
 The contracts, one after another. Conditions: none; printed by a program of our own.
-/
import Derived.Test.YtfhjplagjjjlpaaGreatNumJAll
import Derived.Test.YtfhjplagjjjlpaaGreatNumFb
import Derived.Test.YtfhjplagjjjlpaaGreatNumFc
import Derived.Test.YtfhjplagjjjlpaaGreatTaxFe
namespace Go.Sx.N
open Go.Proofs
theorem o_Sub32 : OKA b1 := nxA (SigOk.none fun _ _ h _ _ => by unfold pms at h; cases h) j_Sub32 Sub32_ok rfl rfl
theorem o_Add32 : OKA b2 := nxA o_Sub32 j_Add32 Add32_ok rfl rfl
theorem o_Len32 : OKA b3 := nxA o_Add32 j_Len32 Len32_ok rfl rfl
theorem o_Lz32 : OKA b4 := nxA o_Len32 j_Lz32 Lz32_ok rfl rfl
theorem o_Div32 : OKA b5 := nxA o_Lz32 j_Div32 Div32_ok rfl rfl
theorem o_Clone32 : OKA b6 := nxA o_Div32 j_Clone32 Clone32_ok rfl rfl
theorem o_trim : OKA b7 := nxA o_Clone32 j_trim trim_ok rfl rfl
theorem o_pack : OKA b8 := nxA o_trim j_pack pack_ok rfl rfl
theorem o_unpack : OKA b9 := nxA o_pack j_unpack unpack_ok rfl rfl
theorem o_long : OKA b10 := nxA o_unpack j_long long_ok rfl rfl
theorem o_short : OKA b11 := nxA o_long j_short short_ok rfl rfl
theorem o_compare : OKA b12 := nxA o_short j_compare compare_ok rfl rfl
theorem o_divideShort : OKA b13 := nxA o_compare j_divideShort divideShort_ok rfl rfl
theorem o_shifted : OKA b14 := nxA o_divideShort j_shifted shifted_ok rfl rfl
theorem o_divide : OKA b15 := nxA o_shifted j_divide divide_ok rfl rfl
theorem o_head : OKA b16 := nxA o_divide j_head head_ok rfl rfl
theorem o_simulate : OKA b17 := nxA o_head j_simulate simulate_ok rfl rfl
theorem o_difference : OKA b18 := nxA o_simulate j_difference difference_ok rfl rfl
theorem o_commonDivisor : OKA b19 := nxA o_difference j_commonDivisor commonDivisor_ok rfl rfl
theorem o_plus : OKA b20 := nxA o_commonDivisor j_plus plus_ok rfl rfl
theorem o_minus : OKA b21 := nxA o_plus j_minus minus_ok rfl rfl
theorem o_times : OKA b22 := nxA o_minus j_times times_ok rfl rfl
theorem o_Clone16 : OKA b23 := nxA o_times j_Clone16 Clone16_ok rfl rfl
theorem o_wValid : OKA b24 := nxA o_Clone16 j_wValid wValid_ok rfl rfl
theorem o_wAllValid : OKA b25 := nxA o_wValid j_wAllValid wAllValid_ok rfl rfl
theorem o_wFromInt : OKA b26 := nxA o_wAllValid j_wFromInt wFromInt_ok rfl rfl
theorem o_wInt : OKA b27 := nxA o_wFromInt j_wInt wInt_ok rfl rfl
theorem o_result : OKA b28 := nxA o_wInt j_result result_ok rfl rfl
theorem o_sum : OKA b29 := nxA o_result j_sum sum_ok rfl rfl
theorem o_wAdd : OKA b30 := nxA o_sum j_wAdd wAdd_ok rfl rfl
theorem o_wMul : OKA b31 := nxA o_wAdd j_wMul wMul_ok rfl rfl
theorem o_wDivMod : OKA b32 := nxA o_wMul j_wDivMod wDivMod_ok rfl rfl
theorem o_wGcd : OKA b33 := nxA o_wDivMod j_wGcd wGcd_ok rfl rfl
theorem o_wCmp : OKA b34 := nxA o_wGcd j_wCmp wCmp_ok rfl rfl
theorem o_opposite : OKA b35 := nxA o_wCmp j_opposite opposite_ok rfl rfl
theorem o_fDivisor : OKA b36 := nxA o_opposite j_fDivisor fDivisor_ok rfl rfl
theorem o_fPlus : OKA b37 := nxA o_fDivisor j_fPlus fPlus_ok rfl rfl
theorem o_fTimes : OKA b38 := nxA o_fPlus j_fTimes fTimes_ok rfl rfl
theorem o_fDivide : OKA b39 := nxA o_fTimes j_fDivide fDivide_ok rfl rfl
theorem o_lowest : OKA b40 := nxA o_fDivide j_lowest lowest_ok rfl rfl
theorem o_fValid : OKA b41 := nxA o_lowest j_fValid fValid_ok rfl rfl
theorem o_fAllValid : OKA b42 := nxA o_fValid j_fAllValid fAllValid_ok rfl rfl
theorem o_fFromInt : OKA b43 := nxA o_fAllValid j_fFromInt fFromInt_ok rfl rfl
theorem o_fAdd : OKA b44 := nxA o_fFromInt j_fAdd fAdd_ok rfl rfl
theorem o_fMul : OKA b45 := nxA o_fAdd j_fMul fMul_ok rfl rfl
theorem o_fDiv : OKA b46 := nxA o_fMul j_fDiv fDiv_ok rfl rfl
theorem o_fCmp : OKA b47 := nxA o_fDiv j_fCmp fCmp_ok rfl rfl
theorem o_fInt : OKA b48 := nxA o_fCmp j_fInt fInt_ok rfl rfl
theorem o_fRound : OKA b49 := nxA o_fInt j_fRound fRound_ok rfl rfl
theorem o_rTrim : OKA b50 := nxA o_fRound j_rTrim rTrim_ok rfl rfl
theorem o_rLess : OKA b51 := nxA o_rTrim j_rLess rLess_ok rfl rfl
theorem o_rPlus : OKA b52 := nxA o_rLess j_rPlus rPlus_ok rfl rfl
theorem o_rMinus : OKA b53 := nxA o_rPlus j_rMinus rMinus_ok rfl rfl
theorem o_rTimes : OKA b54 := nxA o_rMinus j_rTimes rTimes_ok rfl rfl
theorem o_rHalf : OKA b55 := nxA o_rTimes j_rHalf rHalf_ok rfl rfl
theorem o_rShort : OKA b56 := nxA o_rHalf j_rShort rShort_ok rfl rfl
theorem o_rDivided : OKA b57 := nxA o_rShort j_rDivided rDivided_ok rfl rfl
theorem o_rMake : OKA b58 := nxA o_rDivided j_rMake rMake_ok rfl rfl
theorem o_rValid1 : OKA b59 := nxA o_rMake j_rValid1 rValid1_ok rfl rfl
theorem o_rFromInt1 : OKA b60 := nxA o_rValid1 j_rFromInt1 rFromInt1_ok rfl rfl
theorem o_rNeg1 : OKA b61 := nxA o_rFromInt1 j_rNeg1 rNeg1_ok rfl rfl
theorem o_rSum1 : OKA b62 := nxA o_rNeg1 j_rSum1 rSum1_ok rfl rfl
theorem o_rProduct1 : OKA b63 := nxA o_rSum1 j_rProduct1 rProduct1_ok rfl rfl
theorem o_rCommon : OKA b64 := nxA o_rProduct1 j_rCommon rCommon_ok rfl rfl
theorem o_rOrder1 : OKA b65 := nxA o_rCommon j_rOrder1 rOrder1_ok rfl rfl
theorem o_rOne : OKA b66 := nxA o_rOrder1 j_rOne rOne_ok rfl rfl
theorem o_rFits : OKA b67 := nxA o_rOne j_rFits rFits_ok rfl rfl
theorem o_rLowest : OKA b68 := nxA o_rFits j_rLowest rLowest_ok rfl rfl
theorem o_rValid2 : OKA b69 := nxA o_rLowest j_rValid2 rValid2_ok rfl rfl
theorem o_rFromInt2 : OKA b70 := nxA o_rValid2 j_rFromInt2 rFromInt2_ok rfl rfl
theorem o_rQuick : OKA b71 := nxA o_rFromInt2 j_rQuick rQuick_ok rfl rfl
theorem o_rOrder2 : OKA b72 := nxA o_rQuick j_rOrder2 rOrder2_ok rfl rfl
theorem o_rCmp2 : OKA b73 := nxA o_rOrder2 j_rCmp2 rCmp2_ok rfl rfl
theorem o_kSameLimbs : OKA b74 := nxA o_rCmp2 j_kSameLimbs kSameLimbs_ok rfl rfl
theorem o_kSameWhole : OKA b75 := nxA o_kSameLimbs j_kSameWhole kSameWhole_ok rfl rfl
theorem o_kSameFrac : OKA b76 := nxA o_kSameWhole j_kSameFrac kSameFrac_ok rfl rfl
theorem o_kCopyLimbs : OKA b77 := nxA o_kSameFrac j_kCopyLimbs kCopyLimbs_ok rfl rfl
theorem o_kCopyWhole : OKA b78 := nxA o_kCopyLimbs j_kCopyWhole kCopyWhole_ok rfl rfl
theorem o_kCopyFrac : OKA b79 := nxA o_kCopyWhole j_kCopyFrac kCopyFrac_ok rfl rfl
theorem o_isAmount : OKA b80 := nxA o_kCopyFrac j_isAmount isAmount_ok rfl rfl
theorem o_validRate : OKA b81 := nxA o_isAmount j_validRate validRate_ok rfl rfl
theorem o_tValid : OKA b82 := nxA o_validRate j_tValid tValid_ok rfl rfl
theorem o_validYears : OKA b83 := nxA o_tValid j_validYears validYears_ok rfl rfl
theorem o_applying : OKA b84 := nxA o_validYears j_applying applying_ok rfl rfl
theorem o_exact : OKA b85 := nxA o_applying j_exact exact_ok rfl rfl
theorem o_tTax : OKA b86 := nxA o_exact j_tTax tTax_ok rfl rfl
theorem o_tDue : OKA b87 := nxA o_tTax j_tDue tDue_ok rfl rfl
theorem o_ownFrac : OKA b88 := nxA o_tDue j_ownFrac ownFrac_ok rfl rfl
theorem o_tScale : OKA b89 := nxA o_ownFrac j_tScale tScale_ok rfl rfl
theorem o_tWithhold : OKA b90 := nxA o_tScale j_tWithhold tWithhold_ok rfl rfl
theorem o_xValid : OKA b91 := nxA o_tWithhold j_xValid xValid_ok rfl rfl
theorem o_xScale : OKA b92 := nxA o_xValid j_xScale xScale_ok rfl rfl
theorem o_fits : OKA b93 := nxA o_xScale j_fits fits_ok rfl rfl
theorem o_example : OKA b94 := nxA o_fits j_example example_ok rfl rfl
theorem o_awake : OKA b95 := nxA o_example j_awake awake_ok rfl rfl
theorem o_given : OKA b96 := nxA o_awake j_given given_ok rfl rfl
theorem o_same : OKA b97 := nxA o_given j_same same_ok rfl rfl
theorem o_scales : OKA b98 := nxA o_same j_scales scales_ok rfl rfl
end Go.Sx.N
