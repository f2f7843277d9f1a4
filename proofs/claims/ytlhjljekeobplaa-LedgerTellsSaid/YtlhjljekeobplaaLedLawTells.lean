/-
  The statement LedgerTellsSaid: whatever the input, the law returns true and its arguments read as before. Conditions: none.
-/
import Derived.Test.YtlhjljekeobplaaRows
import Derived.Test.YtlhjljekeobplaaSxL
import Derived.Test.YtlhjljekeobplaaLedC
import Derived.Test.YtlhjljekeobplaaLedPT
namespace Go.Proofs.Ytlhjljekeobplaa
open Go.Sx Go.Sx.L
open Go.ChangeShapes Go.WideShapes Go.ChangeAt Go.RowKit

theorem Tells_own : ownKnob Try.prog.godebug = none := by kernel_rfl
theorem Tells_laid : laidOutB Try.prog = true := by kernel_rfl

set_option maxRecDepth 100000 in
theorem Tells_lifted (os : Os) (started : os.Started) (H : Type) (enc : TypeId × Value → H) :
    ReturnsInHanded {} Try.checked os 5 .any (Rows.ledgerTellsSpec.pre6 enc Try.prog Try.f5 Rows.ledgerTellsRow.domain false) (Rows.ledgerTellsSpec.post enc Try.prog Try.f5 false true false false) := by
  refine returnsInHanded_of_change (C := Try.checked) Tells_own started (by kernel_rfl) Try.func5
    (ChangeSpec.witness6 (enc := enc) (C := Try.checked) false ⟨#[], #[.agg #[.int .i64 0, .slice none 0 0, .slice none 0 0], .int .i64 0, .int .i64 0, .int .i64 0, .int .u8 0], []⟩ 8 (by kernel_rfl) (by kernel_rfl) (by kernel_rfl) (by kernel_rfl)) ?_
  intro W base args ds gs before hval hW _ _
  refine con_true (m := 8) (tb := 4) Tells_laid (pr := Tb 5) (l_Tells o_Post Tells_ok) ?_ ?_ rfl (by kernel_rfl) (by kernel_rfl) (by kernel_rfl) rfl (by kernel_rfl) (by kernel_rfl) ?_ hval hW
  · intro ds hl
    match ds, hl with
    | [x0, x1, x2, x3, x4, x5, x6], _ => trivial
  · intro ds b hl h
    match ds, hl with
    | [x0, x1, x2, x3, x4, x5, x6], _ => exact h
  · intro ds hl
    match ds, hl with
    | [d0, d1, d2, d3, d4], _ => rfl

theorem Tells_proved : Rows.LedgerTellsSaid :=
  OpenClaim.holds_of_wide 5 Try.f5 rfl rfl rfl rfl rfl rfl rfl ⟨rfl, rfl, rfl, rfl, rfl⟩ rfl rfl rfl rfl rfl (by kernel_rfl) Try.func5 (by kernel_rfl)
    (of_decide_eq_true (by kernel_rfl)) (by unfold Func.isWrapper; first | (rw [if_pos (by decide +kernel)]; kernel_rfl) | (rw [if_neg (by decide +kernel)]; exact ⟨rfl, rfl⟩))
    (fun os started H enc _ => Tells_lifted os started H enc)

end Go.Proofs.Ytlhjljekeobplaa
