/-
  The statement TaxAnewSaid: whatever the input, the law returns true and its arguments read as before. Conditions: none.
-/
import Derived.Test.YtedajccdbdlaoaaGreatRows
import Derived.Test.YtedajccdbdlaoaaGreatEngE
import Derived.Test.YtedajccdbdlaoaaGreatNumCh
import Derived.Test.YtedajccdbdlaoaaGreatNumJAnew
import Derived.Test.YtedajccdbdlaoaaGreatTaxPH
namespace Go.Proofs.YtedajccdbdlaoaaGreat
open Go.Sx Go.Sx.N
open Go.ChangeShapes Go.WideShapes Go.ChangeAt Go.RowKit

theorem Anew_own : ownKnob Tryz.prog.godebug = none := by kernel_rfl
theorem Anew_laid : laidOutB Tryz.prog = true := by kernel_rfl

set_option maxRecDepth 100000 in
theorem Anew_lifted (os : Os) (started : os.Started) (H : Type) (enc : TypeId × Value → H) :
    ReturnsInHanded {} Tryz.checked os 8 .any (Rows.taxAnewSpec.pre6 enc Tryz.prog Tryz.f8 Rows.taxAnewRow.domain false) (Rows.taxAnewSpec.post enc Tryz.prog Tryz.f8 false true false false) := by
  refine handed_sized (C := Tryz.checked) Anew_own started (by kernel_rfl) Tryz.func8
    (ChangeSpec.witness6 (enc := enc) (C := Tryz.checked) false ⟨#[], #[.agg #[.slice none 0 0, .slice none 0 0], .agg #[.int .i64 0, .int .i64 0, .int .i64 0], .agg #[.int .i64 0, .int .i64 0]], []⟩ 8 (by kernel_rfl) (by kernel_rfl) (by kernel_rfl) (by kernel_rfl)) ?_
  intro W base args ds gs before hval hW hwt
  refine con_true (m := 8) (tb := 4) Anew_laid (pr := Tb 8) (l_Anew o_below Anew_ok) ?_ ?_ rfl (by kernel_rfl) (by kernel_rfl) (by kernel_rfl) rfl (by kernel_rfl) (by kernel_rfl) ?_ hval hW hwt
  · intro ds hl
    match ds, hl with
    | [x0, x1, x2, x3, x4, x5, x6], _ => trivial
  · intro ds b hl h
    match ds, hl with
    | [x0, x1, x2, x3, x4, x5, x6], _ => exact h
  · intro ds hl
    match ds, hl with
    | [d0, d1, d2], _ => rfl

theorem Anew_proved : Rows.TaxAnewSaid :=
  OpenClaim.holds_of_wide 8 Tryz.f8 rfl rfl rfl rfl rfl rfl rfl ⟨rfl, rfl, rfl, rfl, rfl⟩ rfl rfl rfl rfl rfl (by kernel_rfl) Tryz.func8 (by kernel_rfl)
    (of_decide_eq_true (by kernel_rfl)) (by unfold Func.isWrapper; first | (rw [if_pos (by decide +kernel)]; kernel_rfl) | (rw [if_neg (by decide +kernel)]; exact ⟨rfl, rfl⟩))
    (fun os started H enc _ => Anew_lifted os started H enc)

end Go.Proofs.YtedajccdbdlaoaaGreat
