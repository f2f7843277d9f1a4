/-
  The statement LedgerAddsUpSaid: whatever the input, the law returns true and its arguments read as before. Conditions: none.
-/
import Derived.Test.YtlhjljekeobplaaRows
import Derived.Test.YtlhjljekeobplaaSxL
import Derived.Test.YtlhjljekeobplaaLedC
import Derived.Test.YtlhjljekeobplaaLedPA
namespace Go.Proofs.Ytlhjljekeobplaa
open Go.Sx Go.Sx.L
open Go.ChangeShapes Go.WideShapes Go.ChangeAt Go.RowKit

theorem AddsUp_own : ownKnob Try.prog.godebug = none := by kernel_rfl
theorem AddsUp_laid : laidOutB Try.prog = true := by kernel_rfl

set_option maxRecDepth 100000 in
theorem AddsUp_lifted (os : Os) (started : os.Started) (H : Type) (enc : TypeId × Value → H) :
    ReturnsInHanded {} Try.checked os 6 .any (Rows.ledgerAddsUpSpec.pre6 enc Try.prog Try.f6 Rows.ledgerAddsUpRow.domain false) (Rows.ledgerAddsUpSpec.post enc Try.prog Try.f6 false true false false) := by
  refine returnsInHanded_of_change (C := Try.checked) AddsUp_own started (by kernel_rfl) Try.func6
    (ChangeSpec.witness6 (enc := enc) (C := Try.checked) false ⟨#[], #[.agg #[.int .i64 0, .slice none 0 0, .slice none 0 0]], []⟩ 8 (by kernel_rfl) (by kernel_rfl) (by kernel_rfl) (by kernel_rfl)) ?_
  intro W base args ds gs before hval hW _ _
  refine con_true (m := 8) (tb := 4) AddsUp_laid (pr := Tb 6) (l_AddsUp o_awake AddsUp_ok) ?_ ?_ rfl (by kernel_rfl) (by kernel_rfl) (by kernel_rfl) rfl (by kernel_rfl) (by kernel_rfl) ?_ hval hW
  · intro ds hl
    match ds, hl with
    | [x0, x1, x2], _ => trivial
  · intro ds b hl h
    match ds, hl with
    | [x0, x1, x2], _ => exact h
  · intro ds hl
    match ds, hl with
    | [d0], _ => rfl

theorem AddsUp_proved : Rows.LedgerAddsUpSaid :=
  OpenClaim.holds_of_wide 6 Try.f6 rfl rfl rfl rfl rfl rfl rfl ⟨rfl, rfl, rfl, rfl, rfl⟩ rfl rfl rfl rfl rfl (by kernel_rfl) Try.func6 (by kernel_rfl)
    (of_decide_eq_true (by kernel_rfl)) (by unfold Func.isWrapper; first | (rw [if_pos (by decide +kernel)]; kernel_rfl) | (rw [if_neg (by decide +kernel)]; exact ⟨rfl, rfl⟩))
    (fun os started H enc _ => AddsUp_lifted os started H enc)

end Go.Proofs.Ytlhjljekeobplaa
