/-
  The statement TableLookSaid: whatever the input, the law returns true and its arguments read as before. Conditions: none.
-/
import Derived.Test.YtjbknheeiaaioaaRows
import Derived.Test.YtjbknheeiaaioaaEngE
import Derived.Test.YtjbknheeiaaioaaNumCh
import Derived.Test.YtjbknheeiaaioaaNumJTLook
import Derived.Test.YtjbknheeiaaioaaTabPA
namespace Go.Proofs.Ytjbknheeiaaioaa
open Go.Sx Go.Sx.N
open Go.ChangeShapes Go.WideShapes Go.ChangeAt Go.RowKit

theorem TLook_own : ownKnob Try.prog.godebug = none := by kernel_rfl
theorem TLook_laid : laidOutB Try.prog = true := by kernel_rfl

set_option maxRecDepth 100000 in
theorem TLook_lifted (os : Os) (started : os.Started) (H : Type) (enc : TypeId × Value → H) :
    ReturnsInHanded {} Try.checked os 3 .any (Rows.tableLookSpec.pre6 enc Try.prog Try.f3 Rows.tableLookRow.domain false) (Rows.tableLookSpec.post enc Try.prog Try.f3 false true false false) := by
  refine handed_sized (C := Try.checked) TLook_own started (by kernel_rfl) Try.func3
    (ChangeSpec.witness6 (enc := enc) (C := Try.checked) false ⟨#[], #[.slice none 0 0, .int .i64 0, .int .i64 0, .int .i64 0], []⟩ 8 (by kernel_rfl) (by kernel_rfl) (by kernel_rfl) (by kernel_rfl)) ?_
  intro W base args ds gs before hval hW hwt
  refine con_true (m := 8) (tb := 4) TLook_laid (pr := Tb 3) (l_TLook o_awake TLook_ok) ?_ ?_ rfl (by kernel_rfl) (by kernel_rfl) (by kernel_rfl) rfl (by kernel_rfl) (by kernel_rfl) ?_ (globOk_none (by kernel_rfl)) hval hW hwt
  · intro ds hl hs
    match ds, hl, hs with
    | [x0, x1, x2, x3], _, hs => first | trivial | exact okY (hs _ (by simp))
  · intro ds b hl h
    match ds, hl with
    | [x0, x1, x2, x3], _ => exact h
  · intro ds hl
    match ds, hl with
    | [d0, d1, d2, d3], _ => rfl

theorem TLook_proved : Rows.TableLookSaid :=
  OpenClaim.holds_of_wide 3 Try.f3 rfl rfl rfl rfl rfl rfl rfl ⟨rfl, rfl, rfl, rfl, rfl⟩ rfl rfl rfl rfl rfl (by kernel_rfl) Try.func3 (by kernel_rfl)
    (of_decide_eq_true (by kernel_rfl)) (by unfold Func.isWrapper; first | (rw [if_pos (by decide +kernel)]; kernel_rfl) | (rw [if_neg (by decide +kernel)]; exact ⟨rfl, rfl⟩))
    (fun os started H enc _ => TLook_lifted os started H enc)

end Go.Proofs.Ytjbknheeiaaioaa
