/-
  The statement ArrearsGrowsSaid: whatever the input, the law returns true and its arguments read as before. Conditions: none.
-/
import Derived.Test.YtmhhcnaflklapaaGreatRows
import Derived.Test.YtmhhcnaflklapaaGreatEngE
import Derived.Test.YtmhhcnaflklapaaGreatNumCh
import Derived.Test.YtmhhcnaflklapaaGreatNumJWGrows
import Derived.Test.YtmhhcnaflklapaaGreatArrPA
namespace Go.Proofs.YtmhhcnaflklapaaGreat
open Go.Sx Go.Sx.N
open Go.ChangeShapes Go.WideShapes Go.ChangeAt Go.RowKit

theorem WGrows_own : ownKnob Tryz.prog.godebug = none := by kernel_rfl
theorem WGrows_laid : laidOutB Tryz.prog = true := by kernel_rfl

set_option maxRecDepth 100000 in
theorem WGrows_lifted (os : Os) (started : os.Started) (H : Type) (enc : TypeId × Value → H) :
    ReturnsInHanded {} Tryz.checked os 3 .any (Rows.arrearsGrowsSpec.pre6 enc Tryz.prog Tryz.f3 Rows.arrearsGrowsRow.domain false) (Rows.arrearsGrowsSpec.post enc Tryz.prog Tryz.f3 false true false false) := by
  refine handed_sized (C := Tryz.checked) WGrows_own started (by kernel_rfl) Tryz.func3
    (ChangeSpec.witness6 (enc := enc) (C := Tryz.checked) false ⟨#[], #[.int .u32 0, .int .u32 0, .int .u8 0, .int .u8 0, .int .u8 0, .slice none 0 0], []⟩ 8 (by kernel_rfl) (by kernel_rfl) (by kernel_rfl) (by kernel_rfl)) ?_
  intro W base args ds gs before hval hW hwt
  refine con_true (m := 8) (tb := 4) WGrows_laid (pr := Tb 3) (l_WGrows o_aAwake WGrows_ok) ?_ ?_ rfl (by kernel_rfl) (by kernel_rfl) (by kernel_rfl) rfl (by kernel_rfl) (by kernel_rfl) ?_ (globOk_none (by kernel_rfl)) hval hW hwt
  · intro ds hl
    match ds, hl with
    | [x0, x1, x2, x3, x4, x5], _ => trivial
  · intro ds b hl h
    match ds, hl with
    | [x0, x1, x2, x3, x4, x5], _ => exact h
  · intro ds hl
    match ds, hl with
    | [d0, d1, d2, d3, d4, d5], _ => rfl

theorem WGrows_proved : Rows.ArrearsGrowsSaid :=
  OpenClaim.holds_of_wide 3 Tryz.f3 rfl rfl rfl rfl rfl rfl rfl ⟨rfl, rfl, rfl, rfl, rfl⟩ rfl rfl rfl rfl rfl (by kernel_rfl) Tryz.func3 (by kernel_rfl)
    (of_decide_eq_true (by kernel_rfl)) (by unfold Func.isWrapper; first | (rw [if_pos (by decide +kernel)]; kernel_rfl) | (rw [if_neg (by decide +kernel)]; exact ⟨rfl, rfl⟩))
    (fun os started H enc _ => WGrows_lifted os started H enc)

end Go.Proofs.YtmhhcnaflklapaaGreat
