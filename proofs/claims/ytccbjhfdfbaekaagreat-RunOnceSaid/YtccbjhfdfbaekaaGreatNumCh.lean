/-
 The contracts, one after another. Conditions: none; printed by a program of our own.
-/
import Derived.Test.YtccbjhfdfbaekaaGreatNumJAll
import Derived.Test.YtccbjhfdfbaekaaGreatNumFb
import Derived.Test.YtccbjhfdfbaekaaGreatNumFc
import Derived.Test.YtccbjhfdfbaekaaGreatRunZ
namespace Go.Sx.N
open Go.Proofs
theorem o_Sub32 : OKA b1 := nxA (SigOk.none fun _ _ h _ _ => by unfold pms at h; cases h) j_Sub32 Sub32_ok rfl rfl
theorem o_Add32 : OKA b2 := nxA o_Sub32 j_Add32 Add32_ok rfl rfl
theorem o_Len32 : OKA b3 := nxA o_Add32 j_Len32 Len32_ok rfl rfl
theorem o_Lz32 : OKA b4 := nxA o_Len32 j_Lz32 Lz32_ok rfl rfl
theorem o_Div32 : OKA b5 := nxA o_Lz32 j_Div32 Div32_ok rfl rfl
theorem o_Clone32 : OKA b6 := nxA o_Div32 j_Clone32 Clone32_ok rfl rfl
theorem o_trim : OKA b7 := nxA o_Clone32 j_trim trim_ok rfl rfl
theorem o_pack : OKA b8 := nxA o_trim j_pack pack_ok rfl rfl
theorem o_unpack : OKA b9 := nxA o_pack j_unpack unpack_ok rfl rfl
theorem o_long : OKA b10 := nxA o_unpack j_long long_ok rfl rfl
theorem o_short : OKA b11 := nxA o_long j_short short_ok rfl rfl
theorem o_compare : OKA b12 := nxA o_short j_compare compare_ok rfl rfl
theorem o_divideShort : OKA b13 := nxA o_compare j_divideShort divideShort_ok rfl rfl
theorem o_shifted : OKA b14 := nxA o_divideShort j_shifted shifted_ok rfl rfl
theorem o_divide : OKA b15 := nxA o_shifted j_divide divide_ok rfl rfl
theorem o_head : OKA b16 := nxA o_divide j_head head_ok rfl rfl
theorem o_simulate : OKA b17 := nxA o_head j_simulate simulate_ok rfl rfl
theorem o_difference : OKA b18 := nxA o_simulate j_difference difference_ok rfl rfl
theorem o_commonDivisor : OKA b19 := nxA o_difference j_commonDivisor commonDivisor_ok rfl rfl
theorem o_plus : OKA b20 := nxA o_commonDivisor j_plus plus_ok rfl rfl
theorem o_minus : OKA b21 := nxA o_plus j_minus minus_ok rfl rfl
theorem o_times : OKA b22 := nxA o_minus j_times times_ok rfl rfl
theorem o_Clone16 : OKA b23 := nxA o_times j_Clone16 Clone16_ok rfl rfl
theorem o_wValid : OKA b24 := nxA o_Clone16 j_wValid wValid_ok rfl rfl
theorem o_wAllValid : OKA b25 := nxA o_wValid j_wAllValid wAllValid_ok rfl rfl
theorem o_wFromInt : OKA b26 := nxA o_wAllValid j_wFromInt wFromInt_ok rfl rfl
theorem o_wInt : OKA b27 := nxA o_wFromInt j_wInt wInt_ok rfl rfl
theorem o_result : OKA b28 := nxA o_wInt j_result result_ok rfl rfl
theorem o_sum : OKA b29 := nxA o_result j_sum sum_ok rfl rfl
theorem o_wAdd : OKA b30 := nxA o_sum j_wAdd wAdd_ok rfl rfl
theorem o_wMul : OKA b31 := nxA o_wAdd j_wMul wMul_ok rfl rfl
theorem o_wDivMod : OKA b32 := nxA o_wMul j_wDivMod wDivMod_ok rfl rfl
theorem o_wGcd : OKA b33 := nxA o_wDivMod j_wGcd wGcd_ok rfl rfl
theorem o_wCmp : OKA b34 := nxA o_wGcd j_wCmp wCmp_ok rfl rfl
theorem o_opposite : OKA b35 := nxA o_wCmp j_opposite opposite_ok rfl rfl
theorem o_fDivisor : OKA b36 := nxA o_opposite j_fDivisor fDivisor_ok rfl rfl
theorem o_fPlus : OKA b37 := nxA o_fDivisor j_fPlus fPlus_ok rfl rfl
theorem o_fTimes : OKA b38 := nxA o_fPlus j_fTimes fTimes_ok rfl rfl
theorem o_fDivide : OKA b39 := nxA o_fTimes j_fDivide fDivide_ok rfl rfl
theorem o_lowest : OKA b40 := nxA o_fDivide j_lowest lowest_ok rfl rfl
theorem o_fValid : OKA b41 := nxA o_lowest j_fValid fValid_ok rfl rfl
theorem o_fAllValid : OKA b42 := nxA o_fValid j_fAllValid fAllValid_ok rfl rfl
theorem o_fFromInt : OKA b43 := nxA o_fAllValid j_fFromInt fFromInt_ok rfl rfl
theorem o_fAdd : OKA b44 := nxA o_fFromInt j_fAdd fAdd_ok rfl rfl
theorem o_fMul : OKA b45 := nxA o_fAdd j_fMul fMul_ok rfl rfl
theorem o_fDiv : OKA b46 := nxA o_fMul j_fDiv fDiv_ok rfl rfl
theorem o_fCmp : OKA b47 := nxA o_fDiv j_fCmp fCmp_ok rfl rfl
theorem o_fInt : OKA b48 := nxA o_fCmp j_fInt fInt_ok rfl rfl
theorem o_fRound : OKA b49 := nxA o_fInt j_fRound fRound_ok rfl rfl
theorem o_kWhole : OKA b50 := nxA o_fRound j_kWhole kWhole_ok rfl rfl
theorem o_kFrac : OKA b51 := nxA o_kWhole j_kFrac kFrac_ok rfl rfl
theorem o_cmpI : OKA b52 := nxA o_kFrac j_cmpI cmpI_ok rfl rfl
theorem o_cmpOr : OKA b53 := nxA o_cmpI j_cmpOr cmpOr_ok rfl rfl
theorem o_tCompare : OKA b54 := nxA o_cmpOr j_tCompare tCompare_ok rfl rfl
theorem o_Right : OKA b55 := nxA o_tCompare j_Right Right_ok rfl rfl
theorem o_tValid : OKA b56 := nxA o_Right j_tValid tValid_ok rfl rfl
theorem o_copied : OKA b57 := nxA o_tValid j_copied copied_ok rfl rfl
theorem o_forced : OKA b58 := nxA o_copied j_forced forced_ok rfl rfl
theorem o_Look : OKA b59 := nxA o_forced j_Look Look_ok rfl rfl
theorem o_has : OKA b60 := nxA o_Look j_has has_ok rfl rfl
theorem o_follow : OKA b61 := nxA o_has j_follow follow_ok rfl rfl
theorem o_Valid : OKA b62 := nxA o_follow j_Valid Valid_ok rfl rfl
theorem o_posted : OKA b63 := nxA o_Valid j_posted posted_ok rfl rfl
theorem o_Open : OKA b64 := nxA o_posted j_Open Open_ok rfl rfl
theorem o_Concat : OKA b65 := nxA o_Open j_Concat Concat_ok rfl rfl
theorem o_Post : OKA b66 := nxA o_Concat j_Post Post_ok rfl rfl
theorem o_lLearn : OKA b67 := nxA o_Post j_lLearn lLearn_ok rfl rfl
theorem o_aShort : OKA b68 := nxA o_lLearn j_aShort aShort_ok rfl rfl
theorem o_aFirst : OKA b69 := nxA o_aShort j_aFirst aFirst_ok rfl rfl
theorem o_aAmount : OKA b70 := nxA o_aFirst j_aAmount aAmount_ok rfl rfl
theorem o_Owe : OKA b71 := nxA o_aAmount j_Owe Owe_ok rfl rfl
theorem o_Settle : OKA b72 := nxA o_Owe j_Settle Settle_ok rfl rfl
theorem o_isShare : OKA b73 := nxA o_Settle j_isShare isShare_ok rfl rfl
theorem o_limit : OKA b74 := nxA o_isShare j_limit limit_ok rfl rfl
theorem o_Limit : OKA b75 := nxA o_limit j_Limit Limit_ok rfl rfl
theorem o_outstanding : OKA b76 := nxA o_Limit j_outstanding outstanding_ok rfl rfl
theorem o_Outstanding : OKA b77 := nxA o_outstanding j_Outstanding Outstanding_ok rfl rfl
theorem o_Take : OKA b78 := nxA o_Outstanding j_Take Take_ok rfl rfl
theorem o_Apply : OKA b79 := nxA o_Take j_Apply Apply_ok rfl rfl
theorem o_isAmount : OKA b80 := nxA o_Apply j_isAmount isAmount_ok rfl rfl
theorem o_validRate : OKA b81 := nxA o_isAmount j_validRate validRate_ok rfl rfl
theorem o_sValid : OKA b82 := nxA o_validRate j_sValid sValid_ok rfl rfl
theorem o_validYears : OKA b83 := nxA o_sValid j_validYears validYears_ok rfl rfl
theorem o_applying : OKA b84 := nxA o_validYears j_applying applying_ok rfl rfl
theorem o_exact : OKA b85 := nxA o_applying j_exact exact_ok rfl rfl
theorem o_tDue : OKA b86 := nxA o_exact j_tDue tDue_ok rfl rfl
theorem o_tWithhold : OKA b87 := nxA o_tDue j_tWithhold tWithhold_ok rfl rfl
theorem o_zAmount : OKA b88 := nxA o_tWithhold j_zAmount zAmount_ok rfl rfl
theorem o_zTax : OKA b89 := nxA o_zAmount j_zTax zTax_ok rfl rfl
theorem o_zValid : OKA b90 := nxA o_zTax j_zValid zValid_ok rfl rfl
theorem o_zUpTo : OKA b91 := nxA o_zValid j_zUpTo zUpTo_ok rfl rfl
theorem o_Pay : OKA b92 := nxA o_zUpTo j_Pay Pay_ok rfl rfl
theorem o_Paid : OKA b93 := nxA o_Pay j_Paid Paid_ok rfl rfl
theorem o_zRev : OKA b94 := nxA o_Paid j_zRev zRev_ok rfl rfl
theorem o_Return : OKA b95 := nxA o_zRev j_Return Return_ok rfl rfl
theorem o_vPart : OKA b96 := nxA o_Return j_vPart vPart_ok rfl rfl
theorem o_vEntries : OKA b97 := nxA o_vPart j_vEntries vEntries_ok rfl rfl
theorem o_vYearly : OKA b98 := nxA o_vEntries j_vYearly vYearly_ok rfl rfl
theorem o_vPlain : OKA b99 := nxA o_vYearly j_vPlain vPlain_ok rfl rfl
theorem o_vAwake : OKA b100 := nxA o_vPlain j_vAwake vAwake_ok rfl rfl
theorem o_vShort : OKA b101 := nxA o_vAwake j_vShort vShort_ok rfl rfl
theorem o_vFew : OKA b102 := nxA o_vShort j_vFew vFew_ok rfl rfl
end Go.Sx.N
