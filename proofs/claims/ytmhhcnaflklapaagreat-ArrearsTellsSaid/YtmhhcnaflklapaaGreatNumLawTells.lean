/-
 The statement ArrearsTellsSaid: whatever the input, the law returns true and its arguments read as before. Conditions: none.
-/
import Derived.Test.YtmhhcnaflklapaaGreatRows
import Derived.Test.YtmhhcnaflklapaaGreatEngE
import Derived.Test.YtmhhcnaflklapaaGreatNumCh
import Derived.Test.YtmhhcnaflklapaaGreatNumJTells
import Derived.Test.YtmhhcnaflklapaaGreatArrPF
namespace Go.Proofs.YtmhhcnaflklapaaGreat
open Go.Sx Go.Sx.N
open Go.ChangeShapes Go.WideShapes Go.ChangeAt Go.RowKit
theorem Tells_own : ownKnob Tryz.prog.godebug = none := by kernel_rfl
theorem Tells_laid : laidOutB Tryz.prog = true := by kernel_rfl
set_option maxRecDepth 100000 in
theorem Tells_lifted (os : Os) (started : os.Started) (H : Type) (enc : TypeId × Value -> H) :
  ReturnsInHanded {} Tryz.checked os 8 .any (Rows.arrearsTellsSpec.pre6 enc Tryz.prog Tryz.f8 Rows.arrearsTellsRow.domain false) (Rows.arrearsTellsSpec.post enc Tryz.prog Tryz.f8 false true false false) := by
 refine handed_sized (C := Tryz.checked) Tells_own started (by kernel_rfl) Tryz.func8
  (ChangeSpec.witness6 (enc := enc) (C := Tryz.checked) false ⟨#[], #[.agg #[.int .i64 0, .slice none 0 0, .slice none 0 0], .int .i64 0, .int .i64 0, .int .i64 0, .int .i64 0, .agg #[.string .empty, .bool false, .slice none 0 0], .int .i64 0], []⟩ 8 (by kernel_rfl) (by kernel_rfl) (by kernel_rfl) (by kernel_rfl)) ?_
 intro W base args ds gs before hval hW hwt
 refine con_true (m := 8) (tb := 4) Tells_laid (pr := Tb 8) (l_Tells o_xPost Tells_ok) ?_ ?_ rfl (by kernel_rfl) (by kernel_rfl) (by kernel_rfl) rfl (by kernel_rfl) (by kernel_rfl) ?_ (globOk_none (by kernel_rfl)) hval hW hwt
 ·intro ds hl hs
  match ds, hl, hs with
  | [x0, x1, x2, x3, x4, x5, x6, x7, x8, x9, x10], _, hs => first | trivial | exact okY (hs _ (by simp))
 ·intro ds b hl h
  match ds, hl with
  | [x0, x1, x2, x3, x4, x5, x6, x7, x8, x9, x10], _ => exact h
 ·intro ds hl
  match ds, hl with
  | [d0, d1, d2, d3, d4, d5, d6], _ => rfl
theorem Tells_proved : Rows.ArrearsTellsSaid :=
 OpenClaim.holds_of_wide 8 Tryz.f8 rfl rfl rfl rfl rfl rfl rfl ⟨rfl, rfl, rfl, rfl, rfl⟩ rfl rfl rfl rfl rfl (by kernel_rfl) Tryz.func8 (by kernel_rfl)
  (of_decide_eq_true (by kernel_rfl)) (by unfold Func.isWrapper; first | (rw [if_pos (by decide +kernel)]; kernel_rfl) | (rw [if_neg (by decide +kernel)]; exact ⟨rfl, rfl⟩))
  (fun os started H enc _ => Tells_lifted os started H enc)
end Go.Proofs.YtmhhcnaflklapaaGreat
