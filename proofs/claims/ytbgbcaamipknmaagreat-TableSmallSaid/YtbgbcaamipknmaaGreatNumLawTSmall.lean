/-
 The statement TableSmallSaid: whatever the input, the law returns true and its arguments read as before. Conditions: none.
-/
import Derived.Test.YtbgbcaamipknmaaGreatRows
import Derived.Test.YtbgbcaamipknmaaGreatEngE
import Derived.Test.YtbgbcaamipknmaaGreatNumCh
import Derived.Test.YtbgbcaamipknmaaGreatNumJTSmall
import Derived.Test.YtbgbcaamipknmaaGreatSmaPA
namespace Go.Proofs.YtbgbcaamipknmaaGreat
open Go.Sx Go.Sx.N
open Go.ChangeShapes Go.WideShapes Go.ChangeAt Go.RowKit
theorem TSmall_own : ownKnob Tryz.prog.godebug = none := by kernel_rfl
theorem TSmall_laid : laidOutB Tryz.prog = true := by kernel_rfl
set_option maxRecDepth 100000 in
theorem TSmall_lifted (os : Os) (started : os.Started) (H : Type) (enc : TypeId × Value -> H) :
  ReturnsInHanded {} Tryz.checked os 3 .any (Rows.tableSmallSpec.pre6 enc Tryz.prog Tryz.f3 Rows.tableSmallRow.domain false) (Rows.tableSmallSpec.post enc Tryz.prog Tryz.f3 false true false false) := by
 refine handed_sized (C := Tryz.checked) TSmall_own started (by kernel_rfl) Tryz.func3
  (ChangeSpec.witness6 (enc := enc) (C := Tryz.checked) false ⟨#[], #[], []⟩ 8 (by kernel_rfl) (by kernel_rfl) (by kernel_rfl) (by kernel_rfl)) ?_
 intro W base args ds gs before hval hW hwt
 refine con_true (m := 12) (tb := 4) TSmall_laid (pr := Tb 3) (l_TSmall o_views TSmall_ok) ?_ ?_ rfl (by kernel_rfl) (by kernel_rfl) (by kernel_rfl) rfl (by kernel_rfl) (by kernel_rfl) ?_ (globOk_none (by kernel_rfl)) hval hW hwt
 ·intro ds hl hs
  match ds, hl, hs with
  | [], _, hs => first | trivial | exact okY (hs.str _ (by simp)) | exact TSmall_pre hs
 ·intro ds b hl h
  match ds, hl with
  | [], _ => exact h
 ·intro ds hl
  match ds, hl with
  | [], _ => rfl
theorem TSmall_proved : Rows.TableSmallSaid :=
 OpenClaim.holds_of_wide 3 Tryz.f3 rfl rfl rfl rfl rfl rfl rfl ⟨rfl, rfl, rfl, rfl, rfl⟩ rfl rfl rfl rfl rfl (by kernel_rfl) Tryz.func3 (by kernel_rfl)
  (of_decide_eq_true (by kernel_rfl)) (by unfold Func.isWrapper; first | (rw [if_pos (by decide +kernel)]; kernel_rfl) | (rw [if_neg (by decide +kernel)]; exact ⟨rfl, rfl⟩))
  (fun os started H enc _ => TSmall_lifted os started H enc)
end Go.Proofs.YtbgbcaamipknmaaGreat
