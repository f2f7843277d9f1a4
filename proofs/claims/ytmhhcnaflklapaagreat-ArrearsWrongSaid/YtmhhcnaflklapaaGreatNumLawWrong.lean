/-
  The statement ArrearsWrongSaid: whatever the input, the law returns true and its arguments read as before. Conditions: none.
-/
import Derived.Test.YtmhhcnaflklapaaGreatRows
import Derived.Test.YtmhhcnaflklapaaGreatEngE
import Derived.Test.YtmhhcnaflklapaaGreatNumCh
import Derived.Test.YtmhhcnaflklapaaGreatNumJWrong
import Derived.Test.YtmhhcnaflklapaaGreatArrPE
namespace Go.Proofs.YtmhhcnaflklapaaGreat
open Go.Sx Go.Sx.N
open Go.ChangeShapes Go.WideShapes Go.ChangeAt Go.RowKit

theorem Wrong_own : ownKnob Tryz.prog.godebug = none := by kernel_rfl
theorem Wrong_laid : laidOutB Tryz.prog = true := by kernel_rfl

set_option maxRecDepth 100000 in
theorem Wrong_lifted (os : Os) (started : os.Started) (H : Type) (enc : TypeId × Value → H) :
    ReturnsInHanded {} Tryz.checked os 7 .any (Rows.arrearsWrongSpec.pre6 enc Tryz.prog Tryz.f7 Rows.arrearsWrongRow.domain false) (Rows.arrearsWrongSpec.post enc Tryz.prog Tryz.f7 false true false false) := by
  refine handed_sized (C := Tryz.checked) Wrong_own started (by kernel_rfl) Tryz.func7
    (ChangeSpec.witness6 (enc := enc) (C := Tryz.checked) false ⟨#[], #[.agg #[.int .i64 0, .slice none 0 0, .slice none 0 0], .int .i64 0], []⟩ 8 (by kernel_rfl) (by kernel_rfl) (by kernel_rfl) (by kernel_rfl)) ?_
  intro W base args ds gs before hval hW hwt
  refine con_true (m := 8) (tb := 4) Wrong_laid (pr := Tb 7) (l_Wrong o_aAwake Wrong_ok) ?_ ?_ rfl (by kernel_rfl) (by kernel_rfl) (by kernel_rfl) rfl (by kernel_rfl) (by kernel_rfl) ?_ (globOk_none (by kernel_rfl)) hval hW hwt
  · intro ds hl
    match ds, hl with
    | [x0, x1, x2, x3], _ => trivial
  · intro ds b hl h
    match ds, hl with
    | [x0, x1, x2, x3], _ => exact h
  · intro ds hl
    match ds, hl with
    | [d0, d1], _ => rfl

theorem Wrong_proved : Rows.ArrearsWrongSaid :=
  OpenClaim.holds_of_wide 7 Tryz.f7 rfl rfl rfl rfl rfl rfl rfl ⟨rfl, rfl, rfl, rfl, rfl⟩ rfl rfl rfl rfl rfl (by kernel_rfl) Tryz.func7 (by kernel_rfl)
    (of_decide_eq_true (by kernel_rfl)) (by unfold Func.isWrapper; first | (rw [if_pos (by decide +kernel)]; kernel_rfl) | (rw [if_neg (by decide +kernel)]; exact ⟨rfl, rfl⟩))
    (fun os started H enc _ => Wrong_lifted os started H enc)

end Go.Proofs.YtmhhcnaflklapaaGreat
