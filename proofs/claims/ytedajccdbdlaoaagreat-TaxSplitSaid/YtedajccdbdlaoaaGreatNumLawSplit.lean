/-
  The statement TaxSplitSaid: whatever the input, the law returns true and its arguments read as before. Conditions: none.
-/
import Derived.Test.YtedajccdbdlaoaaGreatRows
import Derived.Test.YtedajccdbdlaoaaGreatEngE
import Derived.Test.YtedajccdbdlaoaaGreatNumCh
import Derived.Test.YtedajccdbdlaoaaGreatNumJSplit
import Derived.Test.YtedajccdbdlaoaaGreatTaxPG
namespace Go.Proofs.YtedajccdbdlaoaaGreat
open Go.Sx Go.Sx.N
open Go.ChangeShapes Go.WideShapes Go.ChangeAt Go.RowKit

theorem Split_own : ownKnob Tryz.prog.godebug = none := by kernel_rfl
theorem Split_laid : laidOutB Tryz.prog = true := by kernel_rfl

set_option maxRecDepth 100000 in
theorem Split_lifted (os : Os) (started : os.Started) (H : Type) (enc : TypeId × Value → H) :
    ReturnsInHanded {} Tryz.checked os 11 .any (Rows.taxSplitSpec.pre6 enc Tryz.prog Tryz.f11 Rows.taxSplitRow.domain false) (Rows.taxSplitSpec.post enc Tryz.prog Tryz.f11 false true false false) := by
  refine handed_sized (C := Tryz.checked) Split_own started (by kernel_rfl) Tryz.func11
    (ChangeSpec.witness6 (enc := enc) (C := Tryz.checked) false ⟨#[], #[.slice none 0 0, .agg #[.int .i64 0, .int .i64 0, .int .i64 0], .int .u8 0], []⟩ 8 (by kernel_rfl) (by kernel_rfl) (by kernel_rfl) (by kernel_rfl)) ?_
  intro W base args ds gs before hval hW hwt
  refine con_true (m := 8) (tb := 4) Split_laid (pr := Tb 11) (l_Split o_below Split_ok) ?_ ?_ rfl (by kernel_rfl) (by kernel_rfl) (by kernel_rfl) rfl (by kernel_rfl) (by kernel_rfl) ?_ hval hW hwt
  · intro ds hl
    match ds, hl with
    | [x0, x1, x2, x3, x4], _ => trivial
  · intro ds b hl h
    match ds, hl with
    | [x0, x1, x2, x3, x4], _ => exact h
  · intro ds hl
    match ds, hl with
    | [d0, d1, d2], _ => rfl

theorem Split_proved : Rows.TaxSplitSaid :=
  OpenClaim.holds_of_wide 11 Tryz.f11 rfl rfl rfl rfl rfl rfl rfl ⟨rfl, rfl, rfl, rfl, rfl⟩ rfl rfl rfl rfl rfl (by kernel_rfl) Tryz.func11 (by kernel_rfl)
    (of_decide_eq_true (by kernel_rfl)) (by unfold Func.isWrapper; first | (rw [if_pos (by decide +kernel)]; kernel_rfl) | (rw [if_neg (by decide +kernel)]; exact ⟨rfl, rfl⟩))
    (fun os started H enc _ => Split_lifted os started H enc)

end Go.Proofs.YtedajccdbdlaoaaGreat
