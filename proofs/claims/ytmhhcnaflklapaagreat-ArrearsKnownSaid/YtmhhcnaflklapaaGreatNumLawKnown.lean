/-
  The statement ArrearsKnownSaid: whatever the input, the law returns true and its arguments read as before. Conditions: none.
-/
import Derived.Test.YtmhhcnaflklapaaGreatRows
import Derived.Test.YtmhhcnaflklapaaGreatEngE
import Derived.Test.YtmhhcnaflklapaaGreatNumCh
import Derived.Test.YtmhhcnaflklapaaGreatNumJKnown
import Derived.Test.YtmhhcnaflklapaaGreatArrPC
namespace Go.Proofs.YtmhhcnaflklapaaGreat
open Go.Sx Go.Sx.N
open Go.ChangeShapes Go.WideShapes Go.ChangeAt Go.RowKit

theorem Known_own : ownKnob Tryz.prog.godebug = none := by kernel_rfl
theorem Known_laid : laidOutB Tryz.prog = true := by kernel_rfl

set_option maxRecDepth 100000 in
theorem Known_lifted (os : Os) (started : os.Started) (H : Type) (enc : TypeId × Value → H) :
    ReturnsInHanded {} Tryz.checked os 5 .any (Rows.arrearsKnownSpec.pre6 enc Tryz.prog Tryz.f5 Rows.arrearsKnownRow.domain false) (Rows.arrearsKnownSpec.post enc Tryz.prog Tryz.f5 false true false false) := by
  refine handed_sized (C := Tryz.checked) Known_own started (by kernel_rfl) Tryz.func5
    (ChangeSpec.witness6 (enc := enc) (C := Tryz.checked) false ⟨#[], #[.int .u32 0, .int .u8 0, .int .u8 0, .slice none 0 0, .int .u16 0], []⟩ 8 (by kernel_rfl) (by kernel_rfl) (by kernel_rfl) (by kernel_rfl)) ?_
  intro W base args ds gs before hval hW hwt
  refine con_true (m := 8) (tb := 4) Known_laid (pr := Tb 5) (l_Known o_aAwake Known_ok) ?_ ?_ rfl (by kernel_rfl) (by kernel_rfl) (by kernel_rfl) rfl (by kernel_rfl) (by kernel_rfl) ?_ (globOk_none (by kernel_rfl)) hval hW hwt
  · intro ds hl
    match ds, hl with
    | [x0, x1, x2, x3, x4], _ => trivial
  · intro ds b hl h
    match ds, hl with
    | [x0, x1, x2, x3, x4], _ => exact h
  · intro ds hl
    match ds, hl with
    | [d0, d1, d2, d3, d4], _ => rfl

theorem Known_proved : Rows.ArrearsKnownSaid :=
  OpenClaim.holds_of_wide 5 Tryz.f5 rfl rfl rfl rfl rfl rfl rfl ⟨rfl, rfl, rfl, rfl, rfl⟩ rfl rfl rfl rfl rfl (by kernel_rfl) Tryz.func5 (by kernel_rfl)
    (of_decide_eq_true (by kernel_rfl)) (by unfold Func.isWrapper; first | (rw [if_pos (by decide +kernel)]; kernel_rfl) | (rw [if_neg (by decide +kernel)]; exact ⟨rfl, rfl⟩))
    (fun os started H enc _ => Known_lifted os started H enc)

end Go.Proofs.YtmhhcnaflklapaaGreat
