/-
 The contracts, one after another. Conditions: none; printed by a program of our own.
-/
import Derived.Test.YtbgbcaamipknmaaGreatNumJAll
import Derived.Test.YtbgbcaamipknmaaGreatNumFb
import Derived.Test.YtbgbcaamipknmaaGreatNumFc
import Derived.Test.YtbgbcaamipknmaaGreatSmaF
import Derived.Test.YtbgbcaamipknmaaGreatInsA
import Derived.Test.YtbgbcaamipknmaaGreatMemZ
import Derived.Test.YtbgbcaamipknmaaGreatApaZ
namespace Go.Sx.N
open Go.Proofs
theorem pms_ok : ∀ g q, pms g = some q -> ∀ e, q = .ins e -> PrimOk Tb Tryz.prog g q := fun g q h e he => by
 unfold pms at h
 split at h
 ·cases h; exact Go.Sx.Ins.insOK
 ·cases h; cases he
 ·cases h; cases he
 ·cases h; cases he
 ·cases h; cases he
 ·cases h
theorem o_Sub32 : OKA b1 := nxA (SigOk.none pms_ok) j_Sub32 Sub32_ok rfl rfl
theorem o_Add32 : OKA b2 := nxA o_Sub32 j_Add32 Add32_ok rfl rfl
theorem o_Len32 : OKA b3 := nxA o_Add32 j_Len32 Len32_ok rfl rfl
theorem o_Lz32 : OKA b4 := nxA o_Len32 j_Lz32 Lz32_ok rfl rfl
theorem o_Div32 : OKA b5 := nxA o_Lz32 j_Div32 Div32_ok rfl rfl
theorem o_Clone32 : OKA b6 := nxA o_Div32 j_Clone32 Clone32_ok rfl rfl
theorem o_trim : OKA b7 := nxA o_Clone32 j_trim trim_ok rfl rfl
theorem o_pack : OKA b8 := nxA o_trim j_pack pack_ok rfl rfl
theorem o_unpack : OKA b9 := nxA o_pack j_unpack unpack_ok rfl rfl
theorem o_long : OKA b10 := nxA o_unpack j_long long_ok rfl rfl
theorem o_short : OKA b11 := nxA o_long j_short short_ok rfl rfl
theorem o_compare : OKA b12 := nxA o_short j_compare compare_ok rfl rfl
theorem o_divideShort : OKA b13 := nxA o_compare j_divideShort divideShort_ok rfl rfl
theorem o_shifted : OKA b14 := nxA o_divideShort j_shifted shifted_ok rfl rfl
theorem o_divide : OKA b15 := nxA o_shifted j_divide divide_ok rfl rfl
theorem o_head : OKA b16 := nxA o_divide j_head head_ok rfl rfl
theorem o_simulate : OKA b17 := nxA o_head j_simulate simulate_ok rfl rfl
theorem o_difference : OKA b18 := nxA o_simulate j_difference difference_ok rfl rfl
theorem o_commonDivisor : OKA b19 := nxA o_difference j_commonDivisor commonDivisor_ok rfl rfl
theorem o_Clone16 : OKA b20 := nxA o_commonDivisor j_Clone16 Clone16_ok rfl rfl
theorem o_wValid : OKA b21 := nxA o_Clone16 j_wValid wValid_ok rfl rfl
theorem o_wAllValid : OKA b22 := nxA o_wValid j_wAllValid wAllValid_ok rfl rfl
theorem o_wGcd : OKA b23 := nxA o_wAllValid j_wGcd wGcd_ok rfl rfl
theorem o_fDivisor : OKA b24 := nxA o_wGcd j_fDivisor fDivisor_ok rfl rfl
theorem o_fValid : OKA b25 := nxA o_fDivisor j_fValid fValid_ok rfl rfl
theorem o_rTrim : OKA b26 := nxA o_fValid j_rTrim rTrim_ok rfl rfl
theorem o_rLess : OKA b27 := nxA o_rTrim j_rLess rLess_ok rfl rfl
theorem o_rPlus : OKA b28 := nxA o_rLess j_rPlus rPlus_ok rfl rfl
theorem o_rMinus : OKA b29 := nxA o_rPlus j_rMinus rMinus_ok rfl rfl
theorem o_rHalf : OKA b30 := nxA o_rMinus j_rHalf rHalf_ok rfl rfl
theorem o_rShort : OKA b31 := nxA o_rHalf j_rShort rShort_ok rfl rfl
theorem o_rDivided : OKA b32 := nxA o_rShort j_rDivided rDivided_ok rfl rfl
theorem o_rValid1 : OKA b33 := nxA o_rDivided j_rValid1 rValid1_ok rfl rfl
theorem o_rCommon : OKA b34 := nxA o_rValid1 j_rCommon rCommon_ok rfl rfl
theorem o_rOne : OKA b35 := nxA o_rCommon j_rOne rOne_ok rfl rfl
theorem o_rFits : OKA b36 := nxA o_rOne j_rFits rFits_ok rfl rfl
theorem o_rValid2 : OKA b37 := nxA o_rFits j_rValid2 rValid2_ok rfl rfl
theorem o_kSameLimbs : OKA b38 := nxA o_rValid2 j_kSameLimbs kSameLimbs_ok rfl rfl
theorem o_kSameWhole : OKA b39 := nxA o_kSameLimbs j_kSameWhole kSameWhole_ok rfl rfl
theorem o_kSameFrac : OKA b40 := nxA o_kSameWhole j_kSameFrac kSameFrac_ok rfl rfl
theorem o_kWhole : OKA b41 := nxA o_kSameFrac j_kWhole kWhole_ok rfl rfl
theorem o_kFrac : OKA b42 := nxA o_kWhole j_kFrac kFrac_ok rfl rfl
theorem o_cmpI : OKA b43 := nxA o_kFrac j_cmpI cmpI_ok rfl rfl
theorem o_cmpOr : OKA b44 := nxA o_cmpI j_cmpOr cmpOr_ok rfl rfl
theorem o_tCompare : OKA b45 := nxA o_cmpOr j_tCompare tCompare_ok rfl rfl
theorem o_Right : OKA b46 := nxA o_tCompare j_Right Right_ok rfl rfl
theorem o_tValid : OKA b47 := nxA o_Right j_tValid tValid_ok rfl rfl
theorem o_copied : OKA b48 := nxA o_tValid j_copied copied_ok rfl rfl
theorem o_forced : OKA b49 := nxA o_copied j_forced forced_ok rfl rfl
theorem o_Look : OKA b50 := nxA o_forced j_Look Look_ok rfl rfl
theorem o_LookTwo : OKA b51 := nxA o_Look j_LookTwo LookTwo_ok rfl rfl
theorem o_View : OKA b52 := nxA o_LookTwo j_View View_ok rfl rfl
theorem o_Learn : OKA b53 := nxA o_View j_Learn Learn_ok rfl rfl
theorem o_kSameRow : OKA b54 := nxA o_Learn j_kSameRow kSameRow_ok rfl rfl
theorem o_kSameRows : OKA b55 := nxA o_kSameRow j_kSameRows kSameRows_ok rfl rfl
theorem o_kSameTable : OKA b56 := nxA o_kSameRows j_kSameTable kSameTable_ok rfl rfl
theorem o_tRow : OKA b57 := nxA o_kSameTable j_tRow tRow_ok rfl rfl
theorem o_awake : OKA b58 := nxA o_tRow j_awake awake_ok rfl rfl
theorem o_kLentTable : OKA b59 := SigOk.more (l := b58) (f := 10) o_awake rfl ⟨Go.Sx.Lent.kLentTable_h, by kernel_rfl⟩ rfl
theorem o_kKeptTable : OKA b60 := SigOk.moreP (l := b59) (f := 15) o_kLentTable rfl rfl (Go.Sx.Lent.kKeptTable_h o_kLentTable (by kernel_rfl))
theorem o_kOverTable : OKA b61 := SigOk.moreP (l := b60) (f := 16) o_kKeptTable rfl rfl (Go.Sx.Lent.overTable_ok)
theorem o_kLentRow : OKA b62 := SigOk.more (l := b61) (f := 24) o_kOverTable rfl ⟨Go.Sx.Lent.kLentRow_h, by kernel_rfl⟩ rfl
theorem o_kKeptRow : OKA b63 := SigOk.moreP (l := b62) (f := 29) o_kLentRow rfl rfl (Go.Sx.Lent.kKeptRow_h o_kLentRow (by kernel_rfl))
theorem o_kOverRow : OKA b64 := SigOk.moreP (l := b63) (f := 30) o_kKeptRow rfl rfl (Go.Sx.Lent.overRow_ok)
theorem o_tRight : OKA b65 := nxA o_kOverRow j_tRight tRight_ok rfl rfl
theorem o_tBefore : OKA b66 := nxA o_tRight j_tBefore tBefore_ok rfl rfl
theorem o_rTValid : OKA b67 := nxA o_tBefore j_rTValid rTValid_ok rfl rfl
theorem o_tForce : OKA b68 := nxA o_rTValid j_tForce tForce_ok rfl rfl
theorem o_rLook : OKA b69 := nxA o_tForce j_rLook rLook_ok rfl rfl
theorem o_rLookTwo : OKA b70 := nxA o_rLook j_rLookTwo rLookTwo_ok rfl rfl
theorem o_rView : OKA b71 := nxA o_rLookTwo j_rView rView_ok rfl rfl
theorem o_rLearn : OKA b72 := nxA o_rView j_rLearn rLearn_ok rfl rfl
theorem o_looks : OKA b73 := nxA o_rLearn j_looks looks_ok rfl rfl
theorem o_learns : OKA b74 := nxA o_looks j_learns learns_ok rfl rfl
theorem o_views : OKA b75 := SigOk.more (l := b74) (f := 5) o_learns rfl ⟨Go.Sx.Apart.views_h o_learns (by kernel_rfl), by kernel_rfl⟩ rfl
end Go.Sx.N
