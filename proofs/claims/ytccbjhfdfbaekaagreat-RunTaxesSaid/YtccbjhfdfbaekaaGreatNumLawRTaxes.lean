/-
 The statement RunTaxesSaid: whatever the input, the law returns true and its arguments read as before. Conditions: none.
-/
import Derived.Test.YtccbjhfdfbaekaaGreatRows
import Derived.Test.YtccbjhfdfbaekaaGreatEngE
import Derived.Test.YtccbjhfdfbaekaaGreatNumCh
import Derived.Test.YtccbjhfdfbaekaaGreatNumJRTaxes
import Derived.Test.YtccbjhfdfbaekaaGreatRunPB
namespace Go.Proofs.YtccbjhfdfbaekaaGreat
open Go.Sx Go.Sx.N
open Go.ChangeShapes Go.WideShapes Go.ChangeAt Go.RowKit
theorem VO : ownKnob Tryz.prog.godebug = none := by kernel_rfl
theorem TQ : laidOutB Tryz.prog = true := by kernel_rfl
set_option maxRecDepth 100000 in
theorem OX (os : Os) (started : os.Started) (H : Type) (enc : TypeId × Value -> H) :
  ReturnsInHanded {} Tryz.checked os 6 .any (Rows.runTaxesSpec.pre6 enc Tryz.prog Tryz.f6 Rows.runTaxesRow.domain false) (Rows.runTaxesSpec.post enc Tryz.prog Tryz.f6 false true false false) := by
 refine PW (C := Tryz.checked) VO started (by kernel_rfl) Tryz.func6
  (ChangeSpec.witness6 (enc := enc) (C := Tryz.checked) false ⟨#[], #[.int .u8 0, .agg #[.int .u32 0, .int .u32 0, .int .u32 0, .int .u32 0, .int .u32 0, .int .u32 0, .int .u32 0, .int .u32 0, .int .u32 0, .int .u32 0, .int .u32 0, .int .u32 0], .int .u8 0], []⟩ 8 (by kernel_rfl) (by kernel_rfl) (by kernel_rfl) (by kernel_rfl)) ?_
 intro W base args ds gs before hval hW hwt
 refine aaJ (m := 12) (tb := 4) TQ (pr := Tb 6) (aaK afN Yl) ?_ ?_ rfl (by kernel_rfl) (by kernel_rfl) (by kernel_rfl) rfl (by kernel_rfl) (by kernel_rfl) ?_ (TS (by kernel_rfl)) hval hW hwt
 ·intro ds hl hs
  match ds, hl, hs with
  | [x0, x1, x2, x3, x4, x5, x6, x7, x8, x9, x10, x11, x12, aC], _, hs => first | trivial | exact okY (hs.str _ (by simp)) | exact aik hs
 ·intro ds b hl h
  match ds, hl with
  | [x0, x1, x2, x3, x4, x5, x6, x7, x8, x9, x10, x11, x12, aC], _ => exact h
 ·intro ds hl
  match ds, hl with
  | [d0, d1, d2], _ => rfl
theorem RTaxes_proved : Rows.RunTaxesSaid :=
 OpenClaim.holds_of_wide 6 Tryz.f6 rfl rfl rfl rfl rfl rfl rfl ⟨rfl, rfl, rfl, rfl, rfl⟩ rfl rfl rfl rfl rfl (by kernel_rfl) Tryz.func6 (by kernel_rfl)
  (of_decide_eq_true (by kernel_rfl)) (by unfold Func.isWrapper; first | (rw [if_pos (by decide +kernel)]; kernel_rfl) | (rw [if_neg (by decide +kernel)]; exact ⟨rfl, rfl⟩))
  (fun os started H enc _ => OX os started H enc)
end Go.Proofs.YtccbjhfdfbaekaaGreat
