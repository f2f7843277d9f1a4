/-
 The statement RunBacksSaid: whatever the input, the law returns true and its arguments read as before. Conditions: none.
-/
import Derived.Test.YtccbjhfdfbaekaaGreatRows
import Derived.Test.YtccbjhfdfbaekaaGreatEngE
import Derived.Test.YtccbjhfdfbaekaaGreatNumCh
import Derived.Test.YtccbjhfdfbaekaaGreatNumJRBacks
import Derived.Test.YtccbjhfdfbaekaaGreatRunPD
namespace Go.Proofs.YtccbjhfdfbaekaaGreat
open Go.Sx Go.Sx.N
open Go.ChangeShapes Go.WideShapes Go.ChangeAt Go.RowKit
theorem WT : ownKnob Tryz.prog.godebug = none := by kernel_rfl
theorem UH : laidOutB Tryz.prog = true := by kernel_rfl
set_option maxRecDepth 100000 in
theorem PZ (os : Os) (started : os.Started) (H : Type) (enc : TypeId × Value -> H) :
  ReturnsInHanded {} Tryz.checked os 4 .any (Rows.runBacksSpec.pre6 enc Tryz.prog Tryz.f4 Rows.runBacksRow.domain false) (Rows.runBacksSpec.post enc Tryz.prog Tryz.f4 false true false false) := by
 refine Qx (C := Tryz.checked) WT started (by kernel_rfl) Tryz.func4
  (ChangeSpec.witness6 (enc := enc) (C := Tryz.checked) false ⟨#[], #[.agg #[.int .i64 0, .slice none 0 0, .slice none 0 0, .int .i64 0, .int .i64 0, .int .i64 0, .slice none 0 0], .int .i64 0, .int .i64 0], []⟩ 8 (by kernel_rfl) (by kernel_rfl) (by kernel_rfl) (by kernel_rfl)) ?_
 intro W base args ds gs before hval hW hwt
 refine abh (m := 12) (tb := 4) UH (pr := Tb 4) (abj aeH Y5) ?_ ?_ rfl (by kernel_rfl) (by kernel_rfl) (by kernel_rfl) rfl (by kernel_rfl) (by kernel_rfl) ?_ (UJ (by kernel_rfl)) hval hW hwt
 ·intro ds hl hs
  match ds, hl, hs with
  | [x0, x1, x2, x3, x4, x5, x6, x7, x8], _, hs => first | trivial | exact okY (hs.str _ (by simp)) | exact ajc hs
 ·intro ds b hl h
  match ds, hl with
  | [x0, x1, x2, x3, x4, x5, x6, x7, x8], _ => exact h
 ·intro ds hl
  match ds, hl with
  | [d0, d1, d2], _ => rfl
theorem RBacks_proved : Rows.RunBacksSaid :=
 OpenClaim.holds_of_wide 4 Tryz.f4 rfl rfl rfl rfl rfl rfl rfl ⟨rfl, rfl, rfl, rfl, rfl⟩ rfl rfl rfl rfl rfl (by kernel_rfl) Tryz.func4 (by kernel_rfl)
  (of_decide_eq_true (by kernel_rfl)) (by unfold Func.isWrapper; first | (rw [if_pos (by decide +kernel)]; kernel_rfl) | (rw [if_neg (by decide +kernel)]; exact ⟨rfl, rfl⟩))
  (fun os started H enc _ => PZ os started H enc)
end Go.Proofs.YtccbjhfdfbaekaaGreat
