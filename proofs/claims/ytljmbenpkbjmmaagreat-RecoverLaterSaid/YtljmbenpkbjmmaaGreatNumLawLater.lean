/-
  The statement RecoverLaterSaid: whatever the input, the law returns true and its arguments read as before. Conditions: none.
-/
import Derived.Test.YtljmbenpkbjmmaaGreatRows
import Derived.Test.YtljmbenpkbjmmaaGreatEngE
import Derived.Test.YtljmbenpkbjmmaaGreatNumCh
import Derived.Test.YtljmbenpkbjmmaaGreatNumJLater
import Derived.Test.YtljmbenpkbjmmaaGreatRecPD
namespace Go.Proofs.YtljmbenpkbjmmaaGreat
open Go.Sx Go.Sx.N
open Go.ChangeShapes Go.WideShapes Go.ChangeAt Go.RowKit

theorem Later_own : ownKnob Tryz.prog.godebug = none := by kernel_rfl
theorem Later_laid : laidOutB Tryz.prog = true := by kernel_rfl

set_option maxRecDepth 100000 in
theorem Later_lifted (os : Os) (started : os.Started) (H : Type) (enc : TypeId × Value → H) :
    ReturnsInHanded {} Tryz.checked os 8 .any (Rows.recoverLaterSpec.pre6 enc Tryz.prog Tryz.f8 Rows.recoverLaterRow.domain false) (Rows.recoverLaterSpec.post enc Tryz.prog Tryz.f8 false true false false) := by
  refine handed_sized (C := Tryz.checked) Later_own started (by kernel_rfl) Tryz.func8
    (ChangeSpec.witness6 (enc := enc) (C := Tryz.checked) false ⟨#[], #[.agg #[.int .i64 0, .slice none 0 0, .slice none 0 0], .int .i64 0, .int .i64 0], []⟩ 8 (by kernel_rfl) (by kernel_rfl) (by kernel_rfl) (by kernel_rfl)) ?_
  intro W base args ds gs before hval hW hwt
  refine con_true (m := 8) (tb := 4) Later_laid (pr := Tb 8) (l_Later o_awake Later_ok) ?_ ?_ rfl (by kernel_rfl) (by kernel_rfl) (by kernel_rfl) rfl (by kernel_rfl) (by kernel_rfl) ?_ hval hW hwt
  · intro ds hl
    match ds, hl with
    | [x0, x1, x2, x3, x4], _ => trivial
  · intro ds b hl h
    match ds, hl with
    | [x0, x1, x2, x3, x4], _ => exact h
  · intro ds hl
    match ds, hl with
    | [d0, d1, d2], _ => rfl

theorem Later_proved : Rows.RecoverLaterSaid :=
  OpenClaim.holds_of_wide 8 Tryz.f8 rfl rfl rfl rfl rfl rfl rfl ⟨rfl, rfl, rfl, rfl, rfl⟩ rfl rfl rfl rfl rfl (by kernel_rfl) Tryz.func8 (by kernel_rfl)
    (of_decide_eq_true (by kernel_rfl)) (by unfold Func.isWrapper; first | (rw [if_pos (by decide +kernel)]; kernel_rfl) | (rw [if_neg (by decide +kernel)]; exact ⟨rfl, rfl⟩))
    (fun os started H enc _ => Later_lifted os started H enc)

end Go.Proofs.YtljmbenpkbjmmaaGreat
