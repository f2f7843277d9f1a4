/-
  The statement IndexLearnsCardSaid: whatever the input, the law returns true and its arguments read as before; what its row lists is tied to the program's text. Conditions: none.
-/
import Derived.Test.YtjljnieafhdkgaaGreatDoorRows
import Derived.Test.YtjljnieafhdkgaaGreatDoorCards
import Derived.Test.YtjljnieafhdkgaaGreatDoorTie
import Derived.Test.YtjljnieafhdkgaaGreatDoorEngE
import Derived.Test.YtjljnieafhdkgaaGreatDoorNumCh
import Derived.Test.YtjljnieafhdkgaaGreatDoorNumJWLearns
import Derived.Test.YtjljnieafhdkgaaGreatDoorIdxPG
import Derived.LaidLaws
import Derived.LaidHandle
import Derived.Handed
import Derived.Lay
import Derived.MakeChecks
import Derived.Stop.Joined
import Derived.SevenTiedAt
namespace Go.Proofs.YtjljnieafhdkgaaGreatDoor
open Go.Sx Go.Sx.N
open Go.ChangeShapes Go.WideShapes Go.ChangeAt Go.RowKit

theorem WLearns_own : ownKnob Tryz.prog.godebug = none := by kernel_rfl
theorem WLearns_laid : laidOutB Tryz.prog = true := by kernel_rfl

set_option maxRecDepth 100000 in
theorem WLearns_lifted (os : Os) (started : os.Started) (H : Type) (enc : TypeId × Value → H) :
    ReturnsInHanded {} Tryz.checked os 9 .any (fun w args => (Rows.indexLearnsSpec.pre enc Tryz.prog Tryz.f9 [] false w args ∧ laidMetH Tryz.prog Rows.indexLearnsRow.laid w) ∧ sizedMet enc Tryz.prog Tryz.f9 (OpenSpec.ofChange Rows.indexLearnsSpec) false w args)
      (Rows.indexLearnsSpec.post enc Tryz.prog Tryz.f9 false true false false) := by
  refine handed_laid (C := Tryz.checked) (X := fun w => laidMetH Tryz.prog Rows.indexLearnsRow.laid w) (fun _ _ hh h => h.of_heap hh) WLearns_own started (by kernel_rfl) Tryz.func9
    (ChangeSpec.witness_at (enc := enc) (C := Tryz.checked) (os := os) (X := fun w _ => laidMetH Tryz.prog Rows.indexLearnsRow.laid w) false (World.laidAll Tryz.prog os Rows.indexLearnsRow.laid) #[.slice none 0 0, .int .u16 0, .int .u16 0, .int .i64 0, .int .i64 0, .int .i64 0] 8 (World.laidAll_os _ _ _) (by kernel_rfl) (by kernel_rfl) (by kernel_rfl) (by kernel_rfl) (by kernel_rfl)
      (by rw [(MakeChecks.laidMetH_plain _ _ _ (by kernel_rfl))]; exact laidMet_laidAll _ (by kernel_rfl) (by kernel_rfl))) ?_
  intro W base args ds gs before hL hval hW hwt
  have hL2 : laidMet Tryz.prog Rows.indexLearnsRow.laid W := by rw [(MakeChecks.laidMetH_plain _ _ _ (by kernel_rfl))] at hL; exact hL
  refine con_true (m := 8) (tb := 4) WLearns_laid (pr := Tb 9) (l_WLearns o_asked WLearns_ok) ?_ ?_ rfl (by kernel_rfl) (by kernel_rfl) (by kernel_rfl) rfl (by kernel_rfl) (by kernel_rfl) ?_
    (glob_of_laid (g := 0) (t := 97) (n := 12) (e := 3) rfl (by kernel_rfl) (by kernel_rfl) (by kernel_rfl) (by kernel_rfl) (by kernel_rfl) hL2) hval hW hwt
  · intro ds hl hs
    match ds, hl, hs with
    | [x0, x1, x2, x3, x4, x5], _, hs => first | trivial | exact okY (hs _ (by simp))
  · intro ds b hl h
    match ds, hl with
    | [x0, x1, x2, x3, x4, x5], _ => exact h
  · intro ds hl
    match ds, hl with
    | [d0, d1, d2, d3, d4, d5], _ => rfl

theorem WLearns_row : Rows.IndexLearnsSaid :=
  OpenClaim.holds_of_wide 9 Tryz.f9 rfl rfl rfl rfl rfl rfl rfl ⟨rfl, rfl, rfl, rfl, rfl⟩ rfl rfl rfl rfl rfl (by kernel_rfl) Tryz.func9 (by kernel_rfl)
    (of_decide_eq_true (by kernel_rfl)) (by unfold Func.isWrapper; first | (rw [if_pos (by decide +kernel)]; kernel_rfl) | (rw [if_neg (by decide +kernel)]; exact ⟨rfl, rfl⟩))
    (fun os started H enc _ => WLearns_lifted os started H enc)

theorem WLearns_proved : Rows.IndexLearnsCardSaid :=
  Claim7.holds_tied_plain_at .later [] [.data] true Rows.indexLearnsCard.stood.harness false WLearns_row (fun _ h => by cases h) (by kernel_rfl) (fun _ h => by cases h) indexLearns_row_tie rfl ⟨rfl, rfl⟩ (by kernel_rfl) rfl
    (fun f fn hf hfn => by
      obtain rfl : f = 9 := Option.some.inj ((show Tryz.prog.funcNamed "annuitant/annuitantlaw10.IndexLearns" = some 9 by kernel_rfl).symm.trans hf) |>.symm
      obtain rfl : fn = Tryz.f9 := (Option.some.inj (Tryz.func9.symm.trans hfn)).symm
      exact ⟨by kernel_rfl, fun j t ht => by
        rw [Tryz.params9] at ht
        have hm : t ∈ [24, 52, 52, 3, 3, 3] := by simpa using Array.mem_of_getElem? ht
        have hall : ([24, 52, 52, 3, 3, 3].all fun u => !Tryz.prog.wantsStandIn u) = true := by kernel_rfl
        exact (show Tryz.prog.wantsStandIn t = false by simpa using List.all_eq_true.1 hall t hm)⟩)
    (by kernel_rfl)

end Go.Proofs.YtjljnieafhdkgaaGreatDoor
