/-
 The statement TableViewsSaid: whatever the input, the law returns true and its arguments read as before. Conditions: none.
-/
import Derived.Test.YtmehepdbfdnbjaaGreatRows
import Derived.Test.YtmehepdbfdnbjaaGreatEngE
import Derived.Test.YtmehepdbfdnbjaaGreatNumCh
import Derived.Test.YtmehepdbfdnbjaaGreatNumJTViews
import Derived.Test.YtmehepdbfdnbjaaGreatViwPL
namespace Go.Proofs.YtmehepdbfdnbjaaGreat
open Go.Sx Go.Sx.N
open Go.ChangeShapes Go.WideShapes Go.ChangeAt Go.RowKit
theorem TViews_own : ownKnob Tryz.prog.godebug = none := by kernel_rfl
theorem TViews_laid : laidOutB Tryz.prog = true := by kernel_rfl
set_option maxRecDepth 100000 in
theorem TViews_lifted (os : Os) (started : os.Started) (H : Type) (enc : TypeId × Value -> H) :
  ReturnsInHanded {} Tryz.checked os 4 .any (Rows.tableViewsSpec.pre6 enc Tryz.prog Tryz.f4 Rows.tableViewsRow.domain false) (Rows.tableViewsSpec.post enc Tryz.prog Tryz.f4 false true false false) := by
 refine handed_sized (C := Tryz.checked) TViews_own started (by kernel_rfl) Tryz.func4
  (ChangeSpec.witness6 (enc := enc) (C := Tryz.checked) false ⟨#[], #[.agg #[.string .empty, .bool false, .slice none 0 0], .int .i64 0], []⟩ 8 (by kernel_rfl) (by kernel_rfl) (by kernel_rfl) (by kernel_rfl)) ?_
 intro W base args ds gs before hval hW hwt
 refine con_true (m := 12) (tb := 4) TViews_laid (pr := Tb 4) (l_TViews o_views TViews_ok) ?_ ?_ rfl (by kernel_rfl) (by kernel_rfl) (by kernel_rfl) rfl (by kernel_rfl) (by kernel_rfl) ?_ (globOk_none (by kernel_rfl)) hval hW hwt
 ·intro ds hl hs
  match ds, hl, hs with
  | [x0, x1, x2, x3], _, hs => first | trivial | exact okY (hs.str _ (by simp)) | exact TViews_pre hs
 ·intro ds b hl h
  match ds, hl with
  | [x0, x1, x2, x3], _ => exact h
 ·intro ds hl
  match ds, hl with
  | [d0, d1], _ => rfl
theorem TViews_proved : Rows.TableViewsSaid :=
 OpenClaim.holds_of_wide 4 Tryz.f4 rfl rfl rfl rfl rfl rfl rfl ⟨rfl, rfl, rfl, rfl, rfl⟩ rfl rfl rfl rfl rfl (by kernel_rfl) Tryz.func4 (by kernel_rfl)
  (of_decide_eq_true (by kernel_rfl)) (by unfold Func.isWrapper; first | (rw [if_pos (by decide +kernel)]; kernel_rfl) | (rw [if_neg (by decide +kernel)]; exact ⟨rfl, rfl⟩))
  (fun os started H enc _ => TViews_lifted os started H enc)
end Go.Proofs.YtmehepdbfdnbjaaGreat
