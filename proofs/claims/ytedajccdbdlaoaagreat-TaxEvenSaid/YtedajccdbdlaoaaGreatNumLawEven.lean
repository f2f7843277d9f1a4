/-
  The statement TaxEvenSaid: whatever the input, the law returns true and its arguments read as before. Conditions: none.
-/
import Derived.Test.YtedajccdbdlaoaaGreatRows
import Derived.Test.YtedajccdbdlaoaaGreatEngE
import Derived.Test.YtedajccdbdlaoaaGreatNumCh
import Derived.Test.YtedajccdbdlaoaaGreatNumJEven
import Derived.Test.YtedajccdbdlaoaaGreatTaxPD
namespace Go.Proofs.YtedajccdbdlaoaaGreat
open Go.Sx Go.Sx.N
open Go.ChangeShapes Go.WideShapes Go.ChangeAt Go.RowKit

theorem Even_own : ownKnob Tryz.prog.godebug = none := by kernel_rfl
theorem Even_laid : laidOutB Tryz.prog = true := by kernel_rfl

set_option maxRecDepth 100000 in
theorem Even_lifted (os : Os) (started : os.Started) (H : Type) (enc : TypeId × Value → H) :
    ReturnsInHanded {} Tryz.checked os 6 .any (Rows.taxEvenSpec.pre6 enc Tryz.prog Tryz.f6 Rows.taxEvenRow.domain false) (Rows.taxEvenSpec.post enc Tryz.prog Tryz.f6 false true false false) := by
  refine handed_sized (C := Tryz.checked) Even_own started (by kernel_rfl) Tryz.func6
    (ChangeSpec.witness6 (enc := enc) (C := Tryz.checked) false ⟨#[], #[.slice none 0 0, .int .i64 0], []⟩ 8 (by kernel_rfl) (by kernel_rfl) (by kernel_rfl) (by kernel_rfl)) ?_
  intro W base args ds gs before hval hW hwt
  refine con_true (m := 8) (tb := 4) Even_laid (pr := Tb 6) (l_Even o_below Even_ok) ?_ ?_ rfl (by kernel_rfl) (by kernel_rfl) (by kernel_rfl) rfl (by kernel_rfl) (by kernel_rfl) ?_ hval hW hwt
  · intro ds hl
    match ds, hl with
    | [x0, x1], _ => trivial
  · intro ds b hl h
    match ds, hl with
    | [x0, x1], _ => exact h
  · intro ds hl
    match ds, hl with
    | [d0, d1], _ => rfl

theorem Even_proved : Rows.TaxEvenSaid :=
  OpenClaim.holds_of_wide 6 Tryz.f6 rfl rfl rfl rfl rfl rfl rfl ⟨rfl, rfl, rfl, rfl, rfl⟩ rfl rfl rfl rfl rfl (by kernel_rfl) Tryz.func6 (by kernel_rfl)
    (of_decide_eq_true (by kernel_rfl)) (by unfold Func.isWrapper; first | (rw [if_pos (by decide +kernel)]; kernel_rfl) | (rw [if_neg (by decide +kernel)]; exact ⟨rfl, rfl⟩))
    (fun os started H enc _ => Even_lifted os started H enc)

end Go.Proofs.YtedajccdbdlaoaaGreat
