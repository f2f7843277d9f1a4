/-
  The statement RecoverOldestSaid: whatever the input, the law returns true and its arguments read as before. Conditions: none.
-/
import Derived.Test.YtljmbenpkbjmmaaGreatRows
import Derived.Test.YtljmbenpkbjmmaaGreatEngE
import Derived.Test.YtljmbenpkbjmmaaGreatNumCh
import Derived.Test.YtljmbenpkbjmmaaGreatNumJOldest
import Derived.Test.YtljmbenpkbjmmaaGreatRecPG
namespace Go.Proofs.YtljmbenpkbjmmaaGreat
open Go.Sx Go.Sx.N
open Go.ChangeShapes Go.WideShapes Go.ChangeAt Go.RowKit

theorem Oldest_own : ownKnob Tryz.prog.godebug = none := by kernel_rfl
theorem Oldest_laid : laidOutB Tryz.prog = true := by kernel_rfl

set_option maxRecDepth 100000 in
theorem Oldest_lifted (os : Os) (started : os.Started) (H : Type) (enc : TypeId × Value → H) :
    ReturnsInHanded {} Tryz.checked os 6 .any (Rows.recoverOldestSpec.pre6 enc Tryz.prog Tryz.f6 Rows.recoverOldestRow.domain false) (Rows.recoverOldestSpec.post enc Tryz.prog Tryz.f6 false true false false) := by
  refine handed_sized (C := Tryz.checked) Oldest_own started (by kernel_rfl) Tryz.func6
    (ChangeSpec.witness6 (enc := enc) (C := Tryz.checked) false ⟨#[], #[.agg #[.int .i64 0, .slice none 0 0, .slice none 0 0], .int .i64 0, .int .i64 0, .int .u8 0, .int .u8 0], []⟩ 8 (by kernel_rfl) (by kernel_rfl) (by kernel_rfl) (by kernel_rfl)) ?_
  intro W base args ds gs before hval hW hwt
  refine con_true (m := 8) (tb := 4) Oldest_laid (pr := Tb 6) (l_Oldest o_awake Oldest_ok) ?_ ?_ rfl (by kernel_rfl) (by kernel_rfl) (by kernel_rfl) rfl (by kernel_rfl) (by kernel_rfl) ?_ (globOk_none (by kernel_rfl)) hval hW hwt
  · intro ds hl
    match ds, hl with
    | [x0, x1, x2, x3, x4, x5, x6], _ => trivial
  · intro ds b hl h
    match ds, hl with
    | [x0, x1, x2, x3, x4, x5, x6], _ => exact h
  · intro ds hl
    match ds, hl with
    | [d0, d1, d2, d3, d4], _ => rfl

theorem Oldest_proved : Rows.RecoverOldestSaid :=
  OpenClaim.holds_of_wide 6 Tryz.f6 rfl rfl rfl rfl rfl rfl rfl ⟨rfl, rfl, rfl, rfl, rfl⟩ rfl rfl rfl rfl rfl (by kernel_rfl) Tryz.func6 (by kernel_rfl)
    (of_decide_eq_true (by kernel_rfl)) (by unfold Func.isWrapper; first | (rw [if_pos (by decide +kernel)]; kernel_rfl) | (rw [if_neg (by decide +kernel)]; exact ⟨rfl, rfl⟩))
    (fun os started H enc _ => Oldest_lifted os started H enc)

end Go.Proofs.YtljmbenpkbjmmaaGreat
