/-
  The statement RecoverWrongSaid: whatever the input, the law returns true and its arguments read as before. Conditions: none.
-/
import Derived.Test.YtljmbenpkbjmmaaGreatRows
import Derived.Test.YtljmbenpkbjmmaaGreatEngE
import Derived.Test.YtljmbenpkbjmmaaGreatNumCh
import Derived.Test.YtljmbenpkbjmmaaGreatNumJWrong
import Derived.Test.YtljmbenpkbjmmaaGreatRecPC
namespace Go.Proofs.YtljmbenpkbjmmaaGreat
open Go.Sx Go.Sx.N
open Go.ChangeShapes Go.WideShapes Go.ChangeAt Go.RowKit

theorem Wrong_own : ownKnob Tryz.prog.godebug = none := by kernel_rfl
theorem Wrong_laid : laidOutB Tryz.prog = true := by kernel_rfl

set_option maxRecDepth 100000 in
theorem Wrong_lifted (os : Os) (started : os.Started) (H : Type) (enc : TypeId × Value → H) :
    ReturnsInHanded {} Tryz.checked os 5 .any (Rows.recoverWrongSpec.pre6 enc Tryz.prog Tryz.f5 Rows.recoverWrongRow.domain false) (Rows.recoverWrongSpec.post enc Tryz.prog Tryz.f5 false true false false) := by
  refine handed_sized (C := Tryz.checked) Wrong_own started (by kernel_rfl) Tryz.func5
    (ChangeSpec.witness6 (enc := enc) (C := Tryz.checked) false ⟨#[], #[.agg #[.int .i64 0, .slice none 0 0, .slice none 0 0], .int .i64 0], []⟩ 8 (by kernel_rfl) (by kernel_rfl) (by kernel_rfl) (by kernel_rfl)) ?_
  intro W base args ds gs before hval hW hwt
  refine con_true (m := 8) (tb := 4) Wrong_laid (pr := Tb 5) (l_Wrong o_awake Wrong_ok) ?_ ?_ rfl (by kernel_rfl) (by kernel_rfl) (by kernel_rfl) rfl (by kernel_rfl) (by kernel_rfl) ?_ hval hW hwt
  · intro ds hl
    match ds, hl with
    | [x0, x1, x2, x3], _ => trivial
  · intro ds b hl h
    match ds, hl with
    | [x0, x1, x2, x3], _ => exact h
  · intro ds hl
    match ds, hl with
    | [d0, d1], _ => rfl

theorem Wrong_proved : Rows.RecoverWrongSaid :=
  OpenClaim.holds_of_wide 5 Tryz.f5 rfl rfl rfl rfl rfl rfl rfl ⟨rfl, rfl, rfl, rfl, rfl⟩ rfl rfl rfl rfl rfl (by kernel_rfl) Tryz.func5 (by kernel_rfl)
    (of_decide_eq_true (by kernel_rfl)) (by unfold Func.isWrapper; first | (rw [if_pos (by decide +kernel)]; kernel_rfl) | (rw [if_neg (by decide +kernel)]; exact ⟨rfl, rfl⟩))
    (fun os started H enc _ => Wrong_lifted os started H enc)

end Go.Proofs.YtljmbenpkbjmmaaGreat
