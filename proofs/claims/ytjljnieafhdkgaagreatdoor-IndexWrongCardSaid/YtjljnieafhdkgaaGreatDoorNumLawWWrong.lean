/-
  The statement IndexWrongCardSaid: whatever the input, the law returns true and its arguments read as before; what its row lists is tied to the program's text. Conditions: none.
-/
import Derived.Test.YtjljnieafhdkgaaGreatDoorRows
import Derived.Test.YtjljnieafhdkgaaGreatDoorCards
import Derived.Test.YtjljnieafhdkgaaGreatDoorTie
import Derived.Test.YtjljnieafhdkgaaGreatDoorEngE
import Derived.Test.YtjljnieafhdkgaaGreatDoorNumCh
import Derived.Test.YtjljnieafhdkgaaGreatDoorNumJWWrong
import Derived.Test.YtjljnieafhdkgaaGreatDoorIdxPF
import Derived.LaidLaws
import Derived.LaidHandle
import Derived.Handed
import Derived.Lay
import Derived.MakeChecks
import Derived.Stop.Joined
import Derived.SevenTiedAt
namespace Go.Proofs.YtjljnieafhdkgaaGreatDoor
open Go.Sx Go.Sx.N
open Go.ChangeShapes Go.WideShapes Go.ChangeAt Go.RowKit

theorem WWrong_own : ownKnob Tryz.prog.godebug = none := by kernel_rfl
theorem WWrong_laid : laidOutB Tryz.prog = true := by kernel_rfl

set_option maxRecDepth 100000 in
theorem WWrong_lifted (os : Os) (started : os.Started) (H : Type) (enc : TypeId × Value → H) :
    ReturnsInHanded {} Tryz.checked os 8 .any (fun w args => (Rows.indexWrongSpec.pre enc Tryz.prog Tryz.f8 [] false w args ∧ laidMetH Tryz.prog Rows.indexWrongRow.laid w) ∧ sizedMet enc Tryz.prog Tryz.f8 (OpenSpec.ofChange Rows.indexWrongSpec) false w args)
      (Rows.indexWrongSpec.post enc Tryz.prog Tryz.f8 false true false false) := by
  refine handed_laid (C := Tryz.checked) (X := fun w => laidMetH Tryz.prog Rows.indexWrongRow.laid w) (fun _ _ hh h => h.of_heap hh) WWrong_own started (by kernel_rfl) Tryz.func8
    (ChangeSpec.witness_at (enc := enc) (C := Tryz.checked) (os := os) (X := fun w _ => laidMetH Tryz.prog Rows.indexWrongRow.laid w) false (World.laidAll Tryz.prog os Rows.indexWrongRow.laid) #[.slice none 0 0, .int .i64 0, .int .i64 0, .int .u8 0] 8 (World.laidAll_os _ _ _) (by kernel_rfl) (by kernel_rfl) (by kernel_rfl) (by kernel_rfl) (by kernel_rfl)
      (by rw [(MakeChecks.laidMetH_plain _ _ _ (by kernel_rfl))]; exact laidMet_laidAll _ (by kernel_rfl) (by kernel_rfl))) ?_
  intro W base args ds gs before hL hval hW hwt
  have hL2 : laidMet Tryz.prog Rows.indexWrongRow.laid W := by rw [(MakeChecks.laidMetH_plain _ _ _ (by kernel_rfl))] at hL; exact hL
  refine con_true (m := 8) (tb := 4) WWrong_laid (pr := Tb 8) (l_WWrong o_asked WWrong_ok) ?_ ?_ rfl (by kernel_rfl) (by kernel_rfl) (by kernel_rfl) rfl (by kernel_rfl) (by kernel_rfl) ?_
    (glob_of_laid (g := 0) (t := 97) (n := 12) (e := 3) rfl (by kernel_rfl) (by kernel_rfl) (by kernel_rfl) (by kernel_rfl) (by kernel_rfl) hL2) hval hW hwt
  · intro ds hl
    match ds, hl with
    | [x0, x1, x2, x3], _ => trivial
  · intro ds b hl h
    match ds, hl with
    | [x0, x1, x2, x3], _ => exact h
  · intro ds hl
    match ds, hl with
    | [d0, d1, d2, d3], _ => rfl

theorem WWrong_row : Rows.IndexWrongSaid :=
  OpenClaim.holds_of_wide 8 Tryz.f8 rfl rfl rfl rfl rfl rfl rfl ⟨rfl, rfl, rfl, rfl, rfl⟩ rfl rfl rfl rfl rfl (by kernel_rfl) Tryz.func8 (by kernel_rfl)
    (of_decide_eq_true (by kernel_rfl)) (by unfold Func.isWrapper; first | (rw [if_pos (by decide +kernel)]; kernel_rfl) | (rw [if_neg (by decide +kernel)]; exact ⟨rfl, rfl⟩))
    (fun os started H enc _ => WWrong_lifted os started H enc)

theorem WWrong_proved : Rows.IndexWrongCardSaid :=
  Claim7.holds_tied_plain_at .later [] [.data] true Rows.indexWrongCard.stood.harness false WWrong_row (fun _ h => by cases h) (by kernel_rfl) (fun _ h => by cases h) indexWrong_row_tie rfl ⟨rfl, rfl⟩ (by kernel_rfl) rfl
    (fun f fn hf hfn => by
      obtain rfl : f = 8 := Option.some.inj ((show Tryz.prog.funcNamed "annuitant/annuitantlaw10.IndexWrong" = some 8 by kernel_rfl).symm.trans hf) |>.symm
      obtain rfl : fn = Tryz.f8 := (Option.some.inj (Tryz.func8.symm.trans hfn)).symm
      exact ⟨by kernel_rfl, fun j t ht => by
        rw [Tryz.params8] at ht
        have hm : t ∈ [24, 3, 3, 5] := by simpa using Array.mem_of_getElem? ht
        have hall : ([24, 3, 3, 5].all fun u => !Tryz.prog.wantsStandIn u) = true := by kernel_rfl
        exact (show Tryz.prog.wantsStandIn t = false by simpa using List.all_eq_true.1 hall t hm)⟩)
    (by kernel_rfl)

end Go.Proofs.YtjljnieafhdkgaaGreatDoor
