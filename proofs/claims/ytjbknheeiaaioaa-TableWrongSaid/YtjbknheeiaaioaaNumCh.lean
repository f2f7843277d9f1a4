/-
  The contracts, one after another. Conditions: none; printed by a program of our own.
-/
import Derived.Test.YtjbknheeiaaioaaNumJAll
import Derived.Test.YtjbknheeiaaioaaNumFb
import Derived.Test.YtjbknheeiaaioaaNumFc
import Derived.Test.YtjbknheeiaaioaaTabFe
import Derived.Test.YtjbknheeiaaioaaTabFg
import Derived.Test.YtjbknheeiaaioaaInsD
namespace Go.Sx.N
open Go.Proofs
theorem pms_ok : ∀ g q, pms g = some q → PrimOk Try.prog g q := fun g q h => by
  unfold pms at h
  split at h
  · cases h; exact Go.Sx.Ins.insOK
  · cases h
theorem o_Sub32 : OKA b1 := nxA (SigOk.none pms_ok) j_Sub32 Sub32_ok rfl
theorem o_Add32 : OKA b2 := nxA o_Sub32 j_Add32 Add32_ok rfl
theorem o_Len32 : OKA b3 := nxA o_Add32 j_Len32 Len32_ok rfl
theorem o_Lz32 : OKA b4 := nxA o_Len32 j_Lz32 Lz32_ok rfl
theorem o_Div32 : OKA b5 := nxA o_Lz32 j_Div32 Div32_ok rfl
theorem o_Clone32 : OKA b6 := nxA o_Div32 j_Clone32 Clone32_ok rfl
theorem o_trim : OKA b7 := nxA o_Clone32 j_trim trim_ok rfl
theorem o_pack : OKA b8 := nxA o_trim j_pack pack_ok rfl
theorem o_unpack : OKA b9 := nxA o_pack j_unpack unpack_ok rfl
theorem o_long : OKA b10 := nxA o_unpack j_long long_ok rfl
theorem o_short : OKA b11 := nxA o_long j_short short_ok rfl
theorem o_compare : OKA b12 := nxA o_short j_compare compare_ok rfl
theorem o_divideShort : OKA b13 := nxA o_compare j_divideShort divideShort_ok rfl
theorem o_shifted : OKA b14 := nxA o_divideShort j_shifted shifted_ok rfl
theorem o_divide : OKA b15 := nxA o_shifted j_divide divide_ok rfl
theorem o_head : OKA b16 := nxA o_divide j_head head_ok rfl
theorem o_simulate : OKA b17 := nxA o_head j_simulate simulate_ok rfl
theorem o_difference : OKA b18 := nxA o_simulate j_difference difference_ok rfl
theorem o_commonDivisor : OKA b19 := nxA o_difference j_commonDivisor commonDivisor_ok rfl
theorem o_Clone16 : OKA b20 := nxA o_commonDivisor j_Clone16 Clone16_ok rfl
theorem o_wValid : OKA b21 := nxA o_Clone16 j_wValid wValid_ok rfl
theorem o_wAllValid : OKA b22 := nxA o_wValid j_wAllValid wAllValid_ok rfl
theorem o_wGcd : OKA b23 := nxA o_wAllValid j_wGcd wGcd_ok rfl
theorem o_fDivisor : OKA b24 := nxA o_wGcd j_fDivisor fDivisor_ok rfl
theorem o_fValid : OKA b25 := nxA o_fDivisor j_fValid fValid_ok rfl
theorem o_kSameLimbs : OKA b26 := nxA o_fValid j_kSameLimbs kSameLimbs_ok rfl
theorem o_kSameWhole : OKA b27 := nxA o_kSameLimbs j_kSameWhole kSameWhole_ok rfl
theorem o_kSameFrac : OKA b28 := nxA o_kSameWhole j_kSameFrac kSameFrac_ok rfl
theorem o_kWhole : OKA b29 := nxA o_kSameFrac j_kWhole kWhole_ok rfl
theorem o_kFrac : OKA b30 := nxA o_kWhole j_kFrac kFrac_ok rfl
theorem o_kLimbs : OKA b31 := nxA o_kFrac j_kLimbs kLimbs_ok rfl
theorem o_cmpI : OKA b32 := nxA o_kLimbs j_cmpI cmpI_ok rfl
theorem o_cmpOr : OKA b33 := nxA o_cmpI j_cmpOr cmpOr_ok rfl
theorem o_tCompare : OKA b34 := nxA o_cmpOr j_tCompare tCompare_ok rfl
theorem o_Right : OKA b35 := nxA o_tCompare j_Right Right_ok rfl
theorem o_tValid : OKA b36 := nxA o_Right j_tValid tValid_ok rfl
theorem o_copied : OKA b37 := nxA o_tValid j_copied copied_ok rfl
theorem o_forced : OKA b38 := nxA o_copied j_forced forced_ok rfl
theorem o_View : OKA b39 := nxA o_forced j_View View_ok rfl
theorem o_Look : OKA b40 := nxA o_View j_Look Look_ok rfl
theorem o_LookTwo : OKA b41 := nxA o_Look j_LookTwo LookTwo_ok rfl
theorem o_Learn : OKA b42 := nxA o_LookTwo j_Learn Learn_ok rfl
theorem o_kSameRow : OKA b43 := nxA o_Learn j_kSameRow kSameRow_ok rfl
theorem o_kSameRows : OKA b44 := nxA o_kSameRow j_kSameRows kSameRows_ok rfl
theorem o_kSameTable : OKA b45 := nxA o_kSameRows j_kSameTable kSameTable_ok rfl
theorem o_Pool : OKA b46 := nxA o_kSameTable j_Pool Pool_ok rfl
theorem o_tRow : OKA b47 := nxA o_Pool j_tRow tRow_ok rfl
theorem o_tOf : OKA b48 := nxA o_tRow j_tOf tOf_ok rfl
theorem o_tLess : OKA b49 := nxA o_tOf j_tLess tLess_ok rfl
theorem o_Built : OKA b50 := nxA o_tLess j_Built Built_ok rfl
theorem o_holds : OKA b51 := nxA o_Built j_holds holds_ok rfl
theorem o_awake : OKA b52 := nxA o_holds j_awake awake_ok rfl
end Go.Sx.N
