/-
 The statement IndexSmallCardSaid: whatever the input, the law returns true and its arguments read as before; what its row lists is tied to the program's text. Conditions: none.
-/
import Derived.Test.YtclonhmgeabdeaaGreatDoorRows
import Derived.Test.YtclonhmgeabdeaaGreatDoorCards
import Derived.Test.YtclonhmgeabdeaaGreatDoorTie
import Derived.Test.YtclonhmgeabdeaaGreatDoorEngE
import Derived.Test.YtclonhmgeabdeaaGreatDoorNumCh
import Derived.Test.YtclonhmgeabdeaaGreatDoorNumJWSmall
import Derived.Test.YtclonhmgeabdeaaGreatDoorSmlPA
import Derived.LaidLaws
import Derived.LaidHandle
import Derived.Handed
import Derived.Lay
import Derived.MakeChecks
import Derived.Stop.Joined
import Derived.SevenTiedAt
namespace Go.Proofs.YtclonhmgeabdeaaGreatDoor
open Go.Sx Go.Sx.N
open Go.ChangeShapes Go.WideShapes Go.ChangeAt Go.RowKit
theorem WSmall_own : ownKnob Tryz.prog.godebug = none := by kernel_rfl
theorem WSmall_laid : laidOutB Tryz.prog = true := by kernel_rfl
set_option maxRecDepth 100000 in
theorem WSmall_lifted (os : Os) (started : os.Started) (H : Type) (enc : TypeId × Value -> H) :
  ReturnsInHanded {} Tryz.checked os 3 .any (fun w args => (Rows.indexSmallSpec.pre enc Tryz.prog Tryz.f3 [] false w args /\ laidMetH Tryz.prog Rows.indexSmallRow.laid w) /\ sizedMet enc Tryz.prog Tryz.f3 (OpenSpec.ofChange Rows.indexSmallSpec) false w args)
   (Rows.indexSmallSpec.post enc Tryz.prog Tryz.f3 false true false false) := by
 refine handed_laid (C := Tryz.checked) (X := fun w => laidMetH Tryz.prog Rows.indexSmallRow.laid w) (fun _ _ hh h => h.of_heap hh) WSmall_own started (by kernel_rfl) Tryz.func3
  (ChangeSpec.witness_at (enc := enc) (C := Tryz.checked) (os := os) (X := fun w _ => laidMetH Tryz.prog Rows.indexSmallRow.laid w) false (World.laidAll Tryz.prog os Rows.indexSmallRow.laid) #[] 8 (World.laidAll_os _ _ _) (by kernel_rfl) (by kernel_rfl) (by kernel_rfl) (by kernel_rfl) (by kernel_rfl)
   (by rw [(MakeChecks.laidMetH_plain _ _ _ (by kernel_rfl))]; exact laidMet_laidAll _ (by kernel_rfl) (by kernel_rfl))) ?_
 intro W base args ds gs before hL hval hW hwt
 have hL2 : laidMet Tryz.prog Rows.indexSmallRow.laid W := by rw [(MakeChecks.laidMetH_plain _ _ _ (by kernel_rfl))] at hL; exact hL
 refine con_true (m := 12) (tb := 4) WSmall_laid (pr := Tb 3) (l_WSmall o_grows WSmall_ok) ?_ ?_ rfl (by kernel_rfl) (by kernel_rfl) (by kernel_rfl) rfl (by kernel_rfl) (by kernel_rfl) ?_
  (glob_of_laid (g := 0) (t := 126) (n := 12) (e := 3) rfl (by kernel_rfl) (by kernel_rfl) (by kernel_rfl) (by kernel_rfl) (by kernel_rfl) hL2) hval hW hwt
 ·intro ds hl hs
  match ds, hl, hs with
  | [], _, hs => first | trivial | exact okY (hs.str _ (by simp)) | exact WSmall_pre hs
 ·intro ds b hl h
  match ds, hl with
  | [], _ => exact h
 ·intro ds hl
  match ds, hl with
  | [], _ => rfl
theorem WSmall_row : Rows.IndexSmallSaid :=
 OpenClaim.holds_of_wide 3 Tryz.f3 rfl rfl rfl rfl rfl rfl rfl ⟨rfl, rfl, rfl, rfl, rfl⟩ rfl rfl rfl rfl rfl (by kernel_rfl) Tryz.func3 (by kernel_rfl)
  (of_decide_eq_true (by kernel_rfl)) (by unfold Func.isWrapper; first | (rw [if_pos (by decide +kernel)]; kernel_rfl) | (rw [if_neg (by decide +kernel)]; exact ⟨rfl, rfl⟩))
  (fun os started H enc _ => WSmall_lifted os started H enc)
theorem WSmall_proved : Rows.IndexSmallCardSaid :=
 Claim7.holds_tied_plain_at .later [] [.data] true Rows.indexSmallCard.stood.harness false WSmall_row (fun _ h => by cases h) (by kernel_rfl) (fun _ h => by cases h) indexSmall_row_tie rfl ⟨rfl, rfl⟩ (by kernel_rfl) rfl
  (fun f fn hf hfn => by
   obtain rfl : f = 3 := Option.some.inj ((show Tryz.prog.funcNamed "annuitant/annuitantlaw10.IndexSmall" = some 3 by kernel_rfl).symm.trans hf) |>.symm
   obtain rfl : fn = Tryz.f3 := (Option.some.inj (Tryz.func3.symm.trans hfn)).symm
   exact ⟨by kernel_rfl, fun j t ht => by
    rw [Tryz.params3] at ht
    have hm : t ∈ [] := by simpa using Array.mem_of_getElem? ht
    have hall : ([].all fun u => !Tryz.prog.wantsStandIn u) = true := by kernel_rfl
    exact (show Tryz.prog.wantsStandIn t = false by simpa using List.all_eq_true.1 hall t hm)⟩)
  (by kernel_rfl)
end Go.Proofs.YtclonhmgeabdeaaGreatDoor
