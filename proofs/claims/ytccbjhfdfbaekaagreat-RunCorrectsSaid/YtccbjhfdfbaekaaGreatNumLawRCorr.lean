/-
 The statement RunCorrectsSaid: whatever the input, the law returns true and its arguments read as before. Conditions: none.
-/
import Derived.Test.YtccbjhfdfbaekaaGreatRows
import Derived.Test.YtccbjhfdfbaekaaGreatEngE
import Derived.Test.YtccbjhfdfbaekaaGreatNumCh
import Derived.Test.YtccbjhfdfbaekaaGreatNumJRCorr
import Derived.Test.YtccbjhfdfbaekaaGreatRunPC
namespace Go.Proofs.YtccbjhfdfbaekaaGreat
open Go.Sx Go.Sx.N
open Go.ChangeShapes Go.WideShapes Go.ChangeAt Go.RowKit
theorem ag3 : ownKnob Tryz.prog.godebug = none := by kernel_rfl
theorem aeS : laidOutB Tryz.prog = true := by kernel_rfl
set_option maxRecDepth 100000 in
theorem aaR (os : Os) (started : os.Started) (H : Type) (enc : TypeId × Value -> H) :
  ReturnsInHanded {} Tryz.checked os 3 .any (Rows.runCorrectsSpec.pre6 enc Tryz.prog Tryz.f3 Rows.runCorrectsRow.domain false) (Rows.runCorrectsSpec.post enc Tryz.prog Tryz.f3 false true false false) := by
 refine KH (C := Tryz.checked) ag3 started (by kernel_rfl) Tryz.func3
  (ChangeSpec.witness6 (enc := enc) (C := Tryz.checked) false ⟨#[], #[.int .u16 0, .int .u32 0, .int .u32 0, .int .u32 0], []⟩ 8 (by kernel_rfl) (by kernel_rfl) (by kernel_rfl) (by kernel_rfl)) ?_
 intro W base args ds gs before hval hW hwt
 refine Yb (m := 12) (tb := 4) aeS (pr := Tb 3) (amg aeU aj1) ?_ ?_ rfl (by kernel_rfl) (by kernel_rfl) (by kernel_rfl) rfl (by kernel_rfl) (by kernel_rfl) ?_ (OL (by kernel_rfl)) hval hW hwt
 ·intro ds hl hs
  match ds, hl, hs with
  | [x0, x1, x2, x3], _, hs => first | trivial | exact okY (hs.str _ (by simp)) | exact apE hs
 ·intro ds b hl h
  match ds, hl with
  | [x0, x1, x2, x3], _ => exact h
 ·intro ds hl
  match ds, hl with
  | [d0, d1, d2, d3], _ => rfl
theorem RCorr_proved : Rows.RunCorrectsSaid :=
 OpenClaim.holds_of_wide 3 Tryz.f3 rfl rfl rfl rfl rfl rfl rfl ⟨rfl, rfl, rfl, rfl, rfl⟩ rfl rfl rfl rfl rfl (by kernel_rfl) Tryz.func3 (by kernel_rfl)
  (of_decide_eq_true (by kernel_rfl)) (by unfold Func.isWrapper; first | (rw [if_pos (by decide +kernel)]; kernel_rfl) | (rw [if_neg (by decide +kernel)]; exact ⟨rfl, rfl⟩))
  (fun os started H enc _ => aaR os started H enc)
end Go.Proofs.YtccbjhfdfbaekaaGreat
