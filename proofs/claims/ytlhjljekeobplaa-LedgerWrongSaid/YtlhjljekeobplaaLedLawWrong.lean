/-
  The statement LedgerWrongSaid: whatever the input, the law returns true and its arguments read as before. Conditions: none.
-/
import Derived.Test.YtlhjljekeobplaaRows
import Derived.Test.YtlhjljekeobplaaSxL
import Derived.Test.YtlhjljekeobplaaLedC
import Derived.Test.YtlhjljekeobplaaLedPW
namespace Go.Proofs.Ytlhjljekeobplaa
open Go.Sx Go.Sx.L
open Go.ChangeShapes Go.WideShapes Go.ChangeAt Go.RowKit

theorem Wrong_own : ownKnob Try.prog.godebug = none := by kernel_rfl
theorem Wrong_laid : laidOutB Try.prog = true := by kernel_rfl

set_option maxRecDepth 100000 in
theorem Wrong_lifted (os : Os) (started : os.Started) (H : Type) (enc : TypeId × Value → H) :
    ReturnsInHanded {} Try.checked os 10 .any (Rows.ledgerWrongSpec.pre6 enc Try.prog Try.f10 Rows.ledgerWrongRow.domain false) (Rows.ledgerWrongSpec.post enc Try.prog Try.f10 false true false false) := by
  refine returnsInHanded_of_change (C := Try.checked) Wrong_own started (by kernel_rfl) Try.func10
    (ChangeSpec.witness6 (enc := enc) (C := Try.checked) false ⟨#[], #[.agg #[.int .i64 0, .slice none 0 0, .slice none 0 0], .int .u8 0, .int .i64 0], []⟩ 8 (by kernel_rfl) (by kernel_rfl) (by kernel_rfl) (by kernel_rfl)) ?_
  intro W base args ds gs before hval hW _ _
  refine con_true (m := 8) (tb := 4) Wrong_laid (pr := Tb 10) (l_Wrong o_Post Wrong_ok) ?_ ?_ rfl (by kernel_rfl) (by kernel_rfl) (by kernel_rfl) rfl (by kernel_rfl) (by kernel_rfl) ?_ hval hW
  · intro ds hl
    match ds, hl with
    | [x0, x1, x2, x3, x4], _ => trivial
  · intro ds b hl h
    match ds, hl with
    | [x0, x1, x2, x3, x4], _ => exact h
  · intro ds hl
    match ds, hl with
    | [d0, d1, d2], _ => rfl

theorem Wrong_proved : Rows.LedgerWrongSaid :=
  OpenClaim.holds_of_wide 10 Try.f10 rfl rfl rfl rfl rfl rfl rfl ⟨rfl, rfl, rfl, rfl, rfl⟩ rfl rfl rfl rfl rfl (by kernel_rfl) Try.func10 (by kernel_rfl)
    (of_decide_eq_true (by kernel_rfl)) (by unfold Func.isWrapper; first | (rw [if_pos (by decide +kernel)]; kernel_rfl) | (rw [if_neg (by decide +kernel)]; exact ⟨rfl, rfl⟩))
    (fun os started H enc _ => Wrong_lifted os started H enc)

end Go.Proofs.Ytlhjljekeobplaa
