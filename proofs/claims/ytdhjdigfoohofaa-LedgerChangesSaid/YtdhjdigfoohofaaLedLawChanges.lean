/-
  The statement LedgerChangesSaid: whatever the input, the law returns true and its arguments read as before. Conditions: none.
-/
import Derived.Test.YtdhjdigfoohofaaRows
import Derived.Test.YtdhjdigfoohofaaEngE
import Derived.Test.YtdhjdigfoohofaaLedCh
import Derived.Test.YtdhjdigfoohofaaLedJChanges
import Derived.Test.YtdhjdigfoohofaaChgPA
namespace Go.Proofs.Ytdhjdigfoohofaa
open Go.Sx Go.Sx.N
open Go.ChangeShapes Go.WideShapes Go.ChangeAt Go.RowKit

theorem Changes_own : ownKnob Try.prog.godebug = none := by kernel_rfl
theorem Changes_laid : laidOutB Try.prog = true := by kernel_rfl

set_option maxRecDepth 100000 in
theorem Changes_lifted (os : Os) (started : os.Started) (H : Type) (enc : TypeId × Value → H) :
    ReturnsInHanded {} Try.checked os 3 .any (Rows.ledgerChangesSpec.pre6 enc Try.prog Try.f3 Rows.ledgerChangesRow.domain false) (Rows.ledgerChangesSpec.post enc Try.prog Try.f3 false true false false) := by
  refine handed_sized (C := Try.checked) Changes_own started (by kernel_rfl) Try.func3
    (ChangeSpec.witness6 (enc := enc) (C := Try.checked) false ⟨#[], #[.agg #[.int .i64 0, .slice none 0 0, .slice none 0 0], .slice none 0 0, .int .i64 0, .int .i64 0], []⟩ 8 (by kernel_rfl) (by kernel_rfl) (by kernel_rfl) (by kernel_rfl)) ?_
  intro W base args ds gs before hval hW hwt
  refine con_true (m := 8) (tb := 4) Changes_laid (pr := Tb 3) (l_Changes o_rLearn Changes_ok) ?_ ?_ rfl (by kernel_rfl) (by kernel_rfl) (by kernel_rfl) rfl (by kernel_rfl) (by kernel_rfl) ?_ (globOk_none (by kernel_rfl)) hval hW hwt
  · intro ds hl
    match ds, hl with
    | [x0, x1, x2, x3, x4, x5], _ => trivial
  · intro ds b hl h
    match ds, hl with
    | [x0, x1, x2, x3, x4, x5], _ => exact h
  · intro ds hl
    match ds, hl with
    | [d0, d1, d2, d3], _ => rfl

theorem Changes_proved : Rows.LedgerChangesSaid :=
  OpenClaim.holds_of_wide 3 Try.f3 rfl rfl rfl rfl rfl rfl rfl ⟨rfl, rfl, rfl, rfl, rfl⟩ rfl rfl rfl rfl rfl (by kernel_rfl) Try.func3 (by kernel_rfl)
    (of_decide_eq_true (by kernel_rfl)) (by unfold Func.isWrapper; first | (rw [if_pos (by decide +kernel)]; kernel_rfl) | (rw [if_neg (by decide +kernel)]; exact ⟨rfl, rfl⟩))
    (fun os started H enc _ => Changes_lifted os started H enc)

end Go.Proofs.Ytdhjdigfoohofaa
