/-
 The statement IndexGrowsCardSaid: whatever the input, the law returns true and its arguments read as before; what its row lists is tied to the program's text. Conditions: none.
-/
import Derived.Test.YtofhdobfddolnaaGreatDoorRows
import Derived.Test.YtofhdobfddolnaaGreatDoorCards
import Derived.Test.YtofhdobfddolnaaGreatDoorTie
import Derived.Test.YtofhdobfddolnaaGreatDoorEngE
import Derived.Test.YtofhdobfddolnaaGreatDoorNumCh
import Derived.Test.YtofhdobfddolnaaGreatDoorNumJWGrows
import Derived.Test.YtofhdobfddolnaaGreatDoorGroPA
import Derived.LaidLaws
import Derived.LaidHandle
import Derived.Handed
import Derived.Lay
import Derived.MakeChecks
import Derived.Stop.Joined
import Derived.SevenTiedAt
namespace Go.Proofs.YtofhdobfddolnaaGreatDoor
open Go.Sx Go.Sx.N
open Go.ChangeShapes Go.WideShapes Go.ChangeAt Go.RowKit
theorem WGrows_own : ownKnob Tryz.prog.godebug = none := by kernel_rfl
theorem WGrows_laid : laidOutB Tryz.prog = true := by kernel_rfl
set_option maxRecDepth 100000 in
theorem WGrows_lifted (os : Os) (started : os.Started) (H : Type) (enc : TypeId × Value -> H) :
  ReturnsInHanded {} Tryz.checked os 3 .any (fun w args => (Rows.indexGrowsSpec.pre enc Tryz.prog Tryz.f3 [] false w args /\ laidMetH Tryz.prog Rows.indexGrowsRow.laid w) /\ sizedMet enc Tryz.prog Tryz.f3 (OpenSpec.ofChange Rows.indexGrowsSpec) false w args)
   (Rows.indexGrowsSpec.post enc Tryz.prog Tryz.f3 false true false false) := by
 refine handed_laid (C := Tryz.checked) (X := fun w => laidMetH Tryz.prog Rows.indexGrowsRow.laid w) (fun _ _ hh h => h.of_heap hh) WGrows_own started (by kernel_rfl) Tryz.func3
  (ChangeSpec.witness_at (enc := enc) (C := Tryz.checked) (os := os) (X := fun w _ => laidMetH Tryz.prog Rows.indexGrowsRow.laid w) false (World.laidAll Tryz.prog os Rows.indexGrowsRow.laid) #[.agg #[.bool false, .slice none 0 0, .bool false, .slice none 0 0], .agg #[.string .empty, .bool false, .slice none 0 0], .int .i64 0, .int .i64 0, .int .i64 0] 8 (World.laidAll_os _ _ _) (by kernel_rfl) (by kernel_rfl) (by kernel_rfl) (by kernel_rfl) (by kernel_rfl)
   (by rw [(MakeChecks.laidMetH_plain _ _ _ (by kernel_rfl))]; exact laidMet_laidAll _ (by kernel_rfl) (by kernel_rfl))) ?_
 intro W base args ds gs before hL hval hW hwt
 have hL2 : laidMet Tryz.prog Rows.indexGrowsRow.laid W := by rw [(MakeChecks.laidMetH_plain _ _ _ (by kernel_rfl))] at hL; exact hL
 refine con_true (m := 8) (tb := 4) WGrows_laid (pr := Tb 3) (l_WGrows o_grows WGrows_ok) ?_ ?_ rfl (by kernel_rfl) (by kernel_rfl) (by kernel_rfl) rfl (by kernel_rfl) (by kernel_rfl) ?_
  (glob_of_laid (g := 0) (t := 126) (n := 12) (e := 3) rfl (by kernel_rfl) (by kernel_rfl) (by kernel_rfl) (by kernel_rfl) (by kernel_rfl) hL2) hval hW hwt
 ·intro ds hl hs
  match ds, hl, hs with
  | [x0, x1, x2, x3, x4, x5, x6, x7, x8, x9], _, hs => first | trivial | exact okY (hs.str _ (by simp)) | exact WGrows_pre hs
 ·intro ds b hl h
  match ds, hl with
  | [x0, x1, x2, x3, x4, x5, x6, x7, x8, x9], _ => exact h
 ·intro ds hl
  match ds, hl with
  | [d0, d1, d2, d3, d4], _ => rfl
theorem WGrows_row : Rows.IndexGrowsSaid :=
 OpenClaim.holds_of_wide 3 Tryz.f3 rfl rfl rfl rfl rfl rfl rfl ⟨rfl, rfl, rfl, rfl, rfl⟩ rfl rfl rfl rfl rfl (by kernel_rfl) Tryz.func3 (by kernel_rfl)
  (of_decide_eq_true (by kernel_rfl)) (by unfold Func.isWrapper; first | (rw [if_pos (by decide +kernel)]; kernel_rfl) | (rw [if_neg (by decide +kernel)]; exact ⟨rfl, rfl⟩))
  (fun os started H enc _ => WGrows_lifted os started H enc)
theorem WGrows_proved : Rows.IndexGrowsCardSaid :=
 Claim7.holds_tied_plain_at .later [] [.data] true Rows.indexGrowsCard.stood.harness false WGrows_row (fun _ h => by cases h) (by kernel_rfl) (fun _ h => by cases h) indexGrows_row_tie rfl ⟨rfl, rfl⟩ (by kernel_rfl) rfl
  (fun f fn hf hfn => by
   obtain rfl : f = 3 := Option.some.inj ((show Tryz.prog.funcNamed "annuitant/annuitantlaw10.IndexGrows" = some 3 by kernel_rfl).symm.trans hf) |>.symm
   obtain rfl : fn = Tryz.f3 := (Option.some.inj (Tryz.func3.symm.trans hfn)).symm
   exact ⟨by kernel_rfl, fun j t ht => by
    rw [Tryz.params3] at ht
    have hm : t ∈ [26, 29, 3, 3, 3] := by simpa using Array.mem_of_getElem? ht
    have hall : ([26, 29, 3, 3, 3].all fun u => !Tryz.prog.wantsStandIn u) = true := by kernel_rfl
    exact (show Tryz.prog.wantsStandIn t = false by simpa using List.all_eq_true.1 hall t hm)⟩)
  (by kernel_rfl)
end Go.Proofs.YtofhdobfddolnaaGreatDoor
