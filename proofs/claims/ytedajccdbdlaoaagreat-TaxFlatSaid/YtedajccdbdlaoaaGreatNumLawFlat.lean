/-
  The statement TaxFlatSaid: whatever the input, the law returns true and its arguments read as before. Conditions: none.
-/
import Derived.Test.YtedajccdbdlaoaaGreatRows
import Derived.Test.YtedajccdbdlaoaaGreatEngE
import Derived.Test.YtedajccdbdlaoaaGreatNumCh
import Derived.Test.YtedajccdbdlaoaaGreatNumJFlat
import Derived.Test.YtedajccdbdlaoaaGreatTaxPF
namespace Go.Proofs.YtedajccdbdlaoaaGreat
open Go.Sx Go.Sx.N
open Go.ChangeShapes Go.WideShapes Go.ChangeAt Go.RowKit

theorem Flat_own : ownKnob Tryz.prog.godebug = none := by kernel_rfl
theorem Flat_laid : laidOutB Tryz.prog = true := by kernel_rfl

set_option maxRecDepth 100000 in
theorem Flat_lifted (os : Os) (started : os.Started) (H : Type) (enc : TypeId × Value → H) :
    ReturnsInHanded {} Tryz.checked os 10 .any (Rows.taxFlatSpec.pre6 enc Tryz.prog Tryz.f10 Rows.taxFlatRow.domain false) (Rows.taxFlatSpec.post enc Tryz.prog Tryz.f10 false true false false) := by
  refine handed_sized (C := Tryz.checked) Flat_own started (by kernel_rfl) Tryz.func10
    (ChangeSpec.witness6 (enc := enc) (C := Tryz.checked) false ⟨#[], #[.agg #[.int .u32 0, .int .u32 0], .agg #[.int .i64 0, .int .i64 0], .int .u8 0], []⟩ 8 (by kernel_rfl) (by kernel_rfl) (by kernel_rfl) (by kernel_rfl)) ?_
  intro W base args ds gs before hval hW hwt
  refine con_true (m := 8) (tb := 4) Flat_laid (pr := Tb 10) (l_Flat o_below Flat_ok) ?_ ?_ rfl (by kernel_rfl) (by kernel_rfl) (by kernel_rfl) rfl (by kernel_rfl) (by kernel_rfl) ?_ hval hW hwt
  · intro ds hl
    match ds, hl with
    | [x0, x1, x2, x3, x4], _ => trivial
  · intro ds b hl h
    match ds, hl with
    | [x0, x1, x2, x3, x4], _ => exact h
  · intro ds hl
    match ds, hl with
    | [d0, d1, d2], _ => rfl

theorem Flat_proved : Rows.TaxFlatSaid :=
  OpenClaim.holds_of_wide 10 Tryz.f10 rfl rfl rfl rfl rfl rfl rfl ⟨rfl, rfl, rfl, rfl, rfl⟩ rfl rfl rfl rfl rfl (by kernel_rfl) Tryz.func10 (by kernel_rfl)
    (of_decide_eq_true (by kernel_rfl)) (by unfold Func.isWrapper; first | (rw [if_pos (by decide +kernel)]; kernel_rfl) | (rw [if_neg (by decide +kernel)]; exact ⟨rfl, rfl⟩))
    (fun os started H enc _ => Flat_lifted os started H enc)

end Go.Proofs.YtedajccdbdlaoaaGreat
