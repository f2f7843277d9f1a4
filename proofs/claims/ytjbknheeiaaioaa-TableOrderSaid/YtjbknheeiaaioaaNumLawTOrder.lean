/-
  The statement TableOrderSaid: whatever the input, the law returns true and its arguments read as before. Conditions: none.
-/
import Derived.Test.YtjbknheeiaaioaaRows
import Derived.Test.YtjbknheeiaaioaaEngE
import Derived.Test.YtjbknheeiaaioaaNumCh
import Derived.Test.YtjbknheeiaaioaaNumJTOrder
import Derived.Test.YtjbknheeiaaioaaTabPD
namespace Go.Proofs.Ytjbknheeiaaioaa
open Go.Sx Go.Sx.N
open Go.ChangeShapes Go.WideShapes Go.ChangeAt Go.RowKit

theorem TOrder_own : ownKnob Try.prog.godebug = none := by kernel_rfl
theorem TOrder_laid : laidOutB Try.prog = true := by kernel_rfl

set_option maxRecDepth 100000 in
theorem TOrder_lifted (os : Os) (started : os.Started) (H : Type) (enc : TypeId × Value → H) :
    ReturnsInHanded {} Try.checked os 6 .any (Rows.tableOrderSpec.pre6 enc Try.prog Try.f6 Rows.tableOrderRow.domain false) (Rows.tableOrderSpec.post enc Try.prog Try.f6 false true false false) := by
  refine handed_sized (C := Try.checked) TOrder_own started (by kernel_rfl) Try.func6
    (ChangeSpec.witness6 (enc := enc) (C := Try.checked) false ⟨#[], #[.slice none 0 0, .bool false], []⟩ 8 (by kernel_rfl) (by kernel_rfl) (by kernel_rfl) (by kernel_rfl)) ?_
  intro W base args ds gs before hval hW hwt
  refine con_true (m := 8) (tb := 4) TOrder_laid (pr := Tb 6) (l_TOrder o_awake TOrder_ok) ?_ ?_ rfl (by kernel_rfl) (by kernel_rfl) (by kernel_rfl) rfl (by kernel_rfl) (by kernel_rfl) ?_ (globOk_none (by kernel_rfl)) hval hW hwt
  · intro ds hl hs
    match ds, hl, hs with
    | [x0, x1], _, hs => first | trivial | exact okY (hs _ (by simp))
  · intro ds b hl h
    match ds, hl with
    | [x0, x1], _ => exact h
  · intro ds hl
    match ds, hl with
    | [d0, d1], _ => rfl

theorem TOrder_proved : Rows.TableOrderSaid :=
  OpenClaim.holds_of_wide 6 Try.f6 rfl rfl rfl rfl rfl rfl rfl ⟨rfl, rfl, rfl, rfl, rfl⟩ rfl rfl rfl rfl rfl (by kernel_rfl) Try.func6 (by kernel_rfl)
    (of_decide_eq_true (by kernel_rfl)) (by unfold Func.isWrapper; first | (rw [if_pos (by decide +kernel)]; kernel_rfl) | (rw [if_neg (by decide +kernel)]; exact ⟨rfl, rfl⟩))
    (fun os started H enc _ => TOrder_lifted os started H enc)

end Go.Proofs.Ytjbknheeiaaioaa
