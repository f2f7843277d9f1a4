/-
  The statement TableKnownSaid: whatever the input, the law returns true and its arguments read as before. Conditions: none.
-/
import Derived.Test.YtjbknheeiaaioaaRows
import Derived.Test.YtjbknheeiaaioaaEngE
import Derived.Test.YtjbknheeiaaioaaNumCh
import Derived.Test.YtjbknheeiaaioaaNumJTKnown
import Derived.Test.YtjbknheeiaaioaaTabPC
namespace Go.Proofs.Ytjbknheeiaaioaa
open Go.Sx Go.Sx.N
open Go.ChangeShapes Go.WideShapes Go.ChangeAt Go.RowKit

theorem TKnown_own : ownKnob Try.prog.godebug = none := by kernel_rfl
theorem TKnown_laid : laidOutB Try.prog = true := by kernel_rfl

set_option maxRecDepth 100000 in
theorem TKnown_lifted (os : Os) (started : os.Started) (H : Type) (enc : TypeId × Value → H) :
    ReturnsInHanded {} Try.checked os 5 .any (Rows.tableKnownSpec.pre6 enc Try.prog Try.f5 Rows.tableKnownRow.domain false) (Rows.tableKnownSpec.post enc Try.prog Try.f5 false true false false) := by
  refine handed_sized (C := Try.checked) TKnown_own started (by kernel_rfl) Try.func5
    (ChangeSpec.witness6 (enc := enc) (C := Try.checked) false ⟨#[], #[.slice none 0 0, .agg #[.int .u8 0, .int .u8 0, .int .u8 0, .int .u16 0], .int .i64 0, .int .i64 0], []⟩ 8 (by kernel_rfl) (by kernel_rfl) (by kernel_rfl) (by kernel_rfl)) ?_
  intro W base args ds gs before hval hW hwt
  refine con_true (m := 8) (tb := 4) TKnown_laid (pr := Tb 5) (l_TKnown o_awake TKnown_ok) ?_ ?_ rfl (by kernel_rfl) (by kernel_rfl) (by kernel_rfl) rfl (by kernel_rfl) (by kernel_rfl) ?_ (globOk_none (by kernel_rfl)) hval hW hwt
  · intro ds hl hs
    match ds, hl, hs with
    | [x0, x1, x2, x3, x4, x5, x6], _, hs => first | trivial | exact okY (hs _ (by simp))
  · intro ds b hl h
    match ds, hl with
    | [x0, x1, x2, x3, x4, x5, x6], _ => exact h
  · intro ds hl
    match ds, hl with
    | [d0, d1, d2, d3], _ => rfl

theorem TKnown_proved : Rows.TableKnownSaid :=
  OpenClaim.holds_of_wide 5 Try.f5 rfl rfl rfl rfl rfl rfl rfl ⟨rfl, rfl, rfl, rfl, rfl⟩ rfl rfl rfl rfl rfl (by kernel_rfl) Try.func5 (by kernel_rfl)
    (of_decide_eq_true (by kernel_rfl)) (by unfold Func.isWrapper; first | (rw [if_pos (by decide +kernel)]; kernel_rfl) | (rw [if_neg (by decide +kernel)]; exact ⟨rfl, rfl⟩))
    (fun os started H enc _ => TKnown_lifted os started H enc)

end Go.Proofs.Ytjbknheeiaaioaa
