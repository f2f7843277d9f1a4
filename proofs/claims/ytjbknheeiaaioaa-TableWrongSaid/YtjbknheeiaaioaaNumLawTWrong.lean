/-
  The statement TableWrongSaid: whatever the input, the law returns true and its arguments read as before. Conditions: none.
-/
import Derived.Test.YtjbknheeiaaioaaRows
import Derived.Test.YtjbknheeiaaioaaEngE
import Derived.Test.YtjbknheeiaaioaaNumCh
import Derived.Test.YtjbknheeiaaioaaNumJTWrong
import Derived.Test.YtjbknheeiaaioaaTabPE
namespace Go.Proofs.Ytjbknheeiaaioaa
open Go.Sx Go.Sx.N
open Go.ChangeShapes Go.WideShapes Go.ChangeAt Go.RowKit

theorem TWrong_own : ownKnob Try.prog.godebug = none := by kernel_rfl
theorem TWrong_laid : laidOutB Try.prog = true := by kernel_rfl

set_option maxRecDepth 100000 in
theorem TWrong_lifted (os : Os) (started : os.Started) (H : Type) (enc : TypeId × Value → H) :
    ReturnsInHanded {} Try.checked os 7 .any (Rows.tableWrongSpec.pre6 enc Try.prog Try.f7 Rows.tableWrongRow.domain false) (Rows.tableWrongSpec.post enc Try.prog Try.f7 false true false false) := by
  refine handed_sized (C := Try.checked) TWrong_own started (by kernel_rfl) Try.func7
    (ChangeSpec.witness6 (enc := enc) (C := Try.checked) false ⟨#[], #[.slice none 0 0, .int .u8 0, .bool false], []⟩ 8 (by kernel_rfl) (by kernel_rfl) (by kernel_rfl) (by kernel_rfl)) ?_
  intro W base args ds gs before hval hW hwt
  refine con_true (m := 8) (tb := 4) TWrong_laid (pr := Tb 7) (l_TWrong o_awake TWrong_ok) ?_ ?_ rfl (by kernel_rfl) (by kernel_rfl) (by kernel_rfl) rfl (by kernel_rfl) (by kernel_rfl) ?_ (globOk_none (by kernel_rfl)) hval hW hwt
  · intro ds hl hs
    match ds, hl, hs with
    | [x0, x1, x2], _, hs => first | trivial | exact okY (hs _ (by simp))
  · intro ds b hl h
    match ds, hl with
    | [x0, x1, x2], _ => exact h
  · intro ds hl
    match ds, hl with
    | [d0, d1, d2], _ => rfl

theorem TWrong_proved : Rows.TableWrongSaid :=
  OpenClaim.holds_of_wide 7 Try.f7 rfl rfl rfl rfl rfl rfl rfl ⟨rfl, rfl, rfl, rfl, rfl⟩ rfl rfl rfl rfl rfl (by kernel_rfl) Try.func7 (by kernel_rfl)
    (of_decide_eq_true (by kernel_rfl)) (by unfold Func.isWrapper; first | (rw [if_pos (by decide +kernel)]; kernel_rfl) | (rw [if_neg (by decide +kernel)]; exact ⟨rfl, rfl⟩))
    (fun os started H enc _ => TWrong_lifted os started H enc)

end Go.Proofs.Ytjbknheeiaaioaa
