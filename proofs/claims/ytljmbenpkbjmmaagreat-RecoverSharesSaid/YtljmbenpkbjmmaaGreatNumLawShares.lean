/-
  The statement RecoverSharesSaid: whatever the input, the law returns true and its arguments read as before. Conditions: none.
-/
import Derived.Test.YtljmbenpkbjmmaaGreatRows
import Derived.Test.YtljmbenpkbjmmaaGreatEngE
import Derived.Test.YtljmbenpkbjmmaaGreatNumCh
import Derived.Test.YtljmbenpkbjmmaaGreatNumJShares
import Derived.Test.YtljmbenpkbjmmaaGreatRecPB
namespace Go.Proofs.YtljmbenpkbjmmaaGreat
open Go.Sx Go.Sx.N
open Go.ChangeShapes Go.WideShapes Go.ChangeAt Go.RowKit

theorem Shares_own : ownKnob Tryz.prog.godebug = none := by kernel_rfl
theorem Shares_laid : laidOutB Tryz.prog = true := by kernel_rfl

set_option maxRecDepth 100000 in
theorem Shares_lifted (os : Os) (started : os.Started) (H : Type) (enc : TypeId × Value → H) :
    ReturnsInHanded {} Tryz.checked os 4 .any (Rows.recoverSharesSpec.pre6 enc Tryz.prog Tryz.f4 Rows.recoverSharesRow.domain false) (Rows.recoverSharesSpec.post enc Tryz.prog Tryz.f4 false true false false) := by
  refine handed_sized (C := Tryz.checked) Shares_own started (by kernel_rfl) Tryz.func4
    (ChangeSpec.witness6 (enc := enc) (C := Tryz.checked) false ⟨#[], #[.agg #[.int .i64 0, .slice none 0 0, .slice none 0 0], .int .i64 0, .int .i64 0, .int .u8 0, .int .u8 0, .int .u8 0], []⟩ 8 (by kernel_rfl) (by kernel_rfl) (by kernel_rfl) (by kernel_rfl)) ?_
  intro W base args ds gs before hval hW hwt
  refine con_true (m := 8) (tb := 4) Shares_laid (pr := Tb 4) (l_Shares o_awake Shares_ok) ?_ ?_ rfl (by kernel_rfl) (by kernel_rfl) (by kernel_rfl) rfl (by kernel_rfl) (by kernel_rfl) ?_ hval hW hwt
  · intro ds hl
    match ds, hl with
    | [x0, x1, x2, x3, x4, x5, x6, x7], _ => trivial
  · intro ds b hl h
    match ds, hl with
    | [x0, x1, x2, x3, x4, x5, x6, x7], _ => exact h
  · intro ds hl
    match ds, hl with
    | [d0, d1, d2, d3, d4, d5], _ => rfl

theorem Shares_proved : Rows.RecoverSharesSaid :=
  OpenClaim.holds_of_wide 4 Tryz.f4 rfl rfl rfl rfl rfl rfl rfl ⟨rfl, rfl, rfl, rfl, rfl⟩ rfl rfl rfl rfl rfl (by kernel_rfl) Tryz.func4 (by kernel_rfl)
    (of_decide_eq_true (by kernel_rfl)) (by unfold Func.isWrapper; first | (rw [if_pos (by decide +kernel)]; kernel_rfl) | (rw [if_neg (by decide +kernel)]; exact ⟨rfl, rfl⟩))
    (fun os started H enc _ => Shares_lifted os started H enc)

end Go.Proofs.YtljmbenpkbjmmaaGreat
