/-
 The statement RunOnceSaid: whatever the input, the law returns true and its arguments read as before. Conditions: none.
-/
import Derived.Test.YtccbjhfdfbaekaaGreatRows
import Derived.Test.YtccbjhfdfbaekaaGreatEngE
import Derived.Test.YtccbjhfdfbaekaaGreatNumCh
import Derived.Test.YtccbjhfdfbaekaaGreatNumJROnce
import Derived.Test.YtccbjhfdfbaekaaGreatRunPA
namespace Go.Proofs.YtccbjhfdfbaekaaGreat
open Go.Sx Go.Sx.N
open Go.ChangeShapes Go.WideShapes Go.ChangeAt Go.RowKit
theorem ROnce_own : ownKnob Tryz.prog.godebug = none := by kernel_rfl
theorem ROnce_laid : laidOutB Tryz.prog = true := by kernel_rfl
set_option maxRecDepth 100000 in
theorem ROnce_lifted (os : Os) (started : os.Started) (H : Type) (enc : TypeId × Value -> H) :
  ReturnsInHanded {} Tryz.checked os 5 .any (Rows.runOnceSpec.pre6 enc Tryz.prog Tryz.f5 Rows.runOnceRow.domain false) (Rows.runOnceSpec.post enc Tryz.prog Tryz.f5 false true false false) := by
 refine handed_sized (C := Tryz.checked) ROnce_own started (by kernel_rfl) Tryz.func5
  (ChangeSpec.witness6 (enc := enc) (C := Tryz.checked) false ⟨#[], #[.agg #[.int .i64 0, .slice none 0 0, .slice none 0 0, .int .i64 0, .int .i64 0, .int .i64 0, .slice none 0 0], .slice none 0 0, .int .i64 0, .int .i64 0, .agg #[.int .i64 0, .int .i64 0, .bool false, .slice none 0 0, .bool false, .slice none 0 0, .string .empty, .bool false, .slice none 0 0, .slice none 0 0, .int .i64 0], .int .u8 0], []⟩ 8 (by kernel_rfl) (by kernel_rfl) (by kernel_rfl) (by kernel_rfl)) ?_
 intro W base args ds gs before hval hW hwt
 refine con_true (m := 12) (tb := 4) ROnce_laid (pr := Tb 5) (l_ROnce o_vFew ROnce_ok) ?_ ?_ rfl (by kernel_rfl) (by kernel_rfl) (by kernel_rfl) rfl (by kernel_rfl) (by kernel_rfl) ?_ (globOk_none (by kernel_rfl)) hval hW hwt
 ·intro ds hl hs
  match ds, hl, hs with
  | [x0, x1, x2, x3, x4, x5, x6, x7, x8, x9, x10, x11, x12, x13, x14, x15, x16, x17, x18, x19, x20, x21], _, hs => first | trivial | exact okY (hs.str _ (by simp)) | exact ROnce_pre hs
 ·intro ds b hl h
  match ds, hl with
  | [x0, x1, x2, x3, x4, x5, x6, x7, x8, x9, x10, x11, x12, x13, x14, x15, x16, x17, x18, x19, x20, x21], _ => exact h
 ·intro ds hl
  match ds, hl with
  | [d0, d1, d2, d3, d4, d5], _ => rfl
theorem ROnce_proved : Rows.RunOnceSaid :=
 OpenClaim.holds_of_wide 5 Tryz.f5 rfl rfl rfl rfl rfl rfl rfl ⟨rfl, rfl, rfl, rfl, rfl⟩ rfl rfl rfl rfl rfl (by kernel_rfl) Tryz.func5 (by kernel_rfl)
  (of_decide_eq_true (by kernel_rfl)) (by unfold Func.isWrapper; first | (rw [if_pos (by decide +kernel)]; kernel_rfl) | (rw [if_neg (by decide +kernel)]; exact ⟨rfl, rfl⟩))
  (fun os started H enc _ => ROnce_lifted os started H enc)
end Go.Proofs.YtccbjhfdfbaekaaGreat
