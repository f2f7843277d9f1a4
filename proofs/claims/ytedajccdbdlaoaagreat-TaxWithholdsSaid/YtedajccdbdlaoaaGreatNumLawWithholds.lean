/-
  The statement TaxWithholdsSaid: whatever the input, the law returns true and its arguments read as before. Conditions: none.
-/
import Derived.Test.YtedajccdbdlaoaaGreatRows
import Derived.Test.YtedajccdbdlaoaaGreatEngE
import Derived.Test.YtedajccdbdlaoaaGreatNumCh
import Derived.Test.YtedajccdbdlaoaaGreatNumJWithholds
import Derived.Test.YtedajccdbdlaoaaGreatTaxPB
namespace Go.Proofs.YtedajccdbdlaoaaGreat
open Go.Sx Go.Sx.N
open Go.ChangeShapes Go.WideShapes Go.ChangeAt Go.RowKit

theorem Withholds_own : ownKnob Tryz.prog.godebug = none := by kernel_rfl
theorem Withholds_laid : laidOutB Tryz.prog = true := by kernel_rfl

set_option maxRecDepth 100000 in
theorem Withholds_lifted (os : Os) (started : os.Started) (H : Type) (enc : TypeId × Value → H) :
    ReturnsInHanded {} Tryz.checked os 4 .any (Rows.taxWithholdsSpec.pre6 enc Tryz.prog Tryz.f4 Rows.taxWithholdsRow.domain false) (Rows.taxWithholdsSpec.post enc Tryz.prog Tryz.f4 false true false false) := by
  refine handed_sized (C := Tryz.checked) Withholds_own started (by kernel_rfl) Tryz.func4
    (ChangeSpec.witness6 (enc := enc) (C := Tryz.checked) false ⟨#[], #[.slice none 0 0, .agg #[.int .i64 0, .int .i64 0, .int .i64 0], .slice none 0 0], []⟩ 8 (by kernel_rfl) (by kernel_rfl) (by kernel_rfl) (by kernel_rfl)) ?_
  intro W base args ds gs before hval hW hwt
  refine con_true (m := 8) (tb := 4) Withholds_laid (pr := Tb 4) (l_Withholds o_below Withholds_ok) ?_ ?_ rfl (by kernel_rfl) (by kernel_rfl) (by kernel_rfl) rfl (by kernel_rfl) (by kernel_rfl) ?_ hval hW hwt
  · intro ds hl
    match ds, hl with
    | [x0, x1, x2, x3, x4], _ => trivial
  · intro ds b hl h
    match ds, hl with
    | [x0, x1, x2, x3, x4], _ => exact h
  · intro ds hl
    match ds, hl with
    | [d0, d1, d2], _ => rfl

theorem Withholds_proved : Rows.TaxWithholdsSaid :=
  OpenClaim.holds_of_wide 4 Tryz.f4 rfl rfl rfl rfl rfl rfl rfl ⟨rfl, rfl, rfl, rfl, rfl⟩ rfl rfl rfl rfl rfl (by kernel_rfl) Tryz.func4 (by kernel_rfl)
    (of_decide_eq_true (by kernel_rfl)) (by unfold Func.isWrapper; first | (rw [if_pos (by decide +kernel)]; kernel_rfl) | (rw [if_neg (by decide +kernel)]; exact ⟨rfl, rfl⟩))
    (fun os started H enc _ => Withholds_lifted os started H enc)

end Go.Proofs.YtedajccdbdlaoaaGreat
