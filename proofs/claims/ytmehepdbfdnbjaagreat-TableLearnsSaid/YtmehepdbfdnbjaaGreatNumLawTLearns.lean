/-
 The statement TableLearnsSaid: whatever the input, the law returns true and its arguments read as before. Conditions: none.
-/
import Derived.Test.YtmehepdbfdnbjaaGreatRows
import Derived.Test.YtmehepdbfdnbjaaGreatEngE
import Derived.Test.YtmehepdbfdnbjaaGreatNumCh
import Derived.Test.YtmehepdbfdnbjaaGreatNumJTLearns
import Derived.Test.YtmehepdbfdnbjaaGreatLrnPL
namespace Go.Proofs.YtmehepdbfdnbjaaGreat
open Go.Sx Go.Sx.N
open Go.ChangeShapes Go.WideShapes Go.ChangeAt Go.RowKit
theorem TLearns_own : ownKnob Tryz.prog.godebug = none := by kernel_rfl
theorem TLearns_laid : laidOutB Tryz.prog = true := by kernel_rfl
set_option maxRecDepth 100000 in
theorem TLearns_lifted (os : Os) (started : os.Started) (H : Type) (enc : TypeId × Value -> H) :
  ReturnsInHanded {} Tryz.checked os 5 .any (Rows.tableLearnsSpec.pre6 enc Tryz.prog Tryz.f5 Rows.tableLearnsRow.domain false) (Rows.tableLearnsSpec.post enc Tryz.prog Tryz.f5 false true false false) := by
 refine handed_sized (C := Tryz.checked) TLearns_own started (by kernel_rfl) Tryz.func5
  (ChangeSpec.witness6 (enc := enc) (C := Tryz.checked) false ⟨#[], #[.agg #[.string .empty, .bool false, .slice none 0 0], .agg #[.int .i64 0, .int .i64 0, .int .i64 0, .bool false, .slice none 0 0, .bool false, .slice none 0 0]], []⟩ 8 (by kernel_rfl) (by kernel_rfl) (by kernel_rfl) (by kernel_rfl)) ?_
 intro W base args ds gs before hval hW hwt
 refine con_true (m := 12) (tb := 4) TLearns_laid (pr := Tb 5) (l_TLearns o_learns TLearns_ok) ?_ ?_ rfl (by kernel_rfl) (by kernel_rfl) (by kernel_rfl) rfl (by kernel_rfl) (by kernel_rfl) ?_ (globOk_none (by kernel_rfl)) hval hW hwt
 ·intro ds hl hs
  match ds, hl, hs with
  | [x0, x1, x2, x3, x4, x5, x6, x7, x8, x9], _, hs => first | trivial | exact okY (hs.str _ (by simp)) | exact TLearns_pre hs
 ·intro ds b hl h
  match ds, hl with
  | [x0, x1, x2, x3, x4, x5, x6, x7, x8, x9], _ => exact h
 ·intro ds hl
  match ds, hl with
  | [d0, d1], _ => rfl
theorem TLearns_proved : Rows.TableLearnsSaid :=
 OpenClaim.holds_of_wide 5 Tryz.f5 rfl rfl rfl rfl rfl rfl rfl ⟨rfl, rfl, rfl, rfl, rfl⟩ rfl rfl rfl rfl rfl (by kernel_rfl) Tryz.func5 (by kernel_rfl)
  (of_decide_eq_true (by kernel_rfl)) (by unfold Func.isWrapper; first | (rw [if_pos (by decide +kernel)]; kernel_rfl) | (rw [if_neg (by decide +kernel)]; exact ⟨rfl, rfl⟩))
  (fun os started H enc _ => TLearns_lifted os started H enc)
end Go.Proofs.YtmehepdbfdnbjaaGreat
