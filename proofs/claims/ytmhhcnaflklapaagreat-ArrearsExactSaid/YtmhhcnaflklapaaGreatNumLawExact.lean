/-
  The statement ArrearsExactSaid: whatever the input, the law returns true and its arguments read as before. Conditions: none.
-/
import Derived.Test.YtmhhcnaflklapaaGreatRows
import Derived.Test.YtmhhcnaflklapaaGreatEngE
import Derived.Test.YtmhhcnaflklapaaGreatNumCh
import Derived.Test.YtmhhcnaflklapaaGreatNumJExact
import Derived.Test.YtmhhcnaflklapaaGreatArrPB
namespace Go.Proofs.YtmhhcnaflklapaaGreat
open Go.Sx Go.Sx.N
open Go.ChangeShapes Go.WideShapes Go.ChangeAt Go.RowKit

theorem Exact_own : ownKnob Tryz.prog.godebug = none := by kernel_rfl
theorem Exact_laid : laidOutB Tryz.prog = true := by kernel_rfl

set_option maxRecDepth 100000 in
theorem Exact_lifted (os : Os) (started : os.Started) (H : Type) (enc : TypeId × Value → H) :
    ReturnsInHanded {} Tryz.checked os 4 .any (Rows.arrearsExactSpec.pre6 enc Tryz.prog Tryz.f4 Rows.arrearsExactRow.domain false) (Rows.arrearsExactSpec.post enc Tryz.prog Tryz.f4 false true false false) := by
  refine handed_sized (C := Tryz.checked) Exact_own started (by kernel_rfl) Tryz.func4
    (ChangeSpec.witness6 (enc := enc) (C := Tryz.checked) false ⟨#[], #[.int .u32 0, .int .u8 0, .int .u16 0], []⟩ 8 (by kernel_rfl) (by kernel_rfl) (by kernel_rfl) (by kernel_rfl)) ?_
  intro W base args ds gs before hval hW hwt
  refine con_true (m := 8) (tb := 4) Exact_laid (pr := Tb 4) (l_Exact o_aAwake Exact_ok) ?_ ?_ rfl (by kernel_rfl) (by kernel_rfl) (by kernel_rfl) rfl (by kernel_rfl) (by kernel_rfl) ?_ (globOk_none (by kernel_rfl)) hval hW hwt
  · intro ds hl
    match ds, hl with
    | [x0, x1, x2], _ => trivial
  · intro ds b hl h
    match ds, hl with
    | [x0, x1, x2], _ => exact h
  · intro ds hl
    match ds, hl with
    | [d0, d1, d2], _ => rfl

theorem Exact_proved : Rows.ArrearsExactSaid :=
  OpenClaim.holds_of_wide 4 Tryz.f4 rfl rfl rfl rfl rfl rfl rfl ⟨rfl, rfl, rfl, rfl, rfl⟩ rfl rfl rfl rfl rfl (by kernel_rfl) Tryz.func4 (by kernel_rfl)
    (of_decide_eq_true (by kernel_rfl)) (by unfold Func.isWrapper; first | (rw [if_pos (by decide +kernel)]; kernel_rfl) | (rw [if_neg (by decide +kernel)]; exact ⟨rfl, rfl⟩))
    (fun os started H enc _ => Exact_lifted os started H enc)

end Go.Proofs.YtmhhcnaflklapaaGreat
