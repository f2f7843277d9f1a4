/-
 The statement RunTellsSaid: whatever the input, the law returns true and its arguments read as before. Conditions: none.
-/
import Derived.Test.YtccbjhfdfbaekaaGreatRows
import Derived.Test.YtccbjhfdfbaekaaGreatEngE
import Derived.Test.YtccbjhfdfbaekaaGreatNumCh
import Derived.Test.YtccbjhfdfbaekaaGreatNumJRTells
import Derived.Test.YtccbjhfdfbaekaaGreatRunPE
namespace Go.Proofs.YtccbjhfdfbaekaaGreat
open Go.Sx Go.Sx.N
open Go.ChangeShapes Go.WideShapes Go.ChangeAt Go.RowKit
theorem aiS:ownKnob Tryz.prog.godebug=none:=by kernel_rfl
theorem agA:laidOutB Tryz.prog=true:=by kernel_rfl
set_option maxRecDepth 100000 in
theorem adh(os:Os)(started:os.Started)(H:Type)(enc:TypeId×Value->H):
  ReturnsInHanded {} Tryz.checked os 7 .any (Rows.runTellsSpec.pre6 enc Tryz.prog Tryz.f7 Rows.runTellsRow.domain false) (Rows.runTellsSpec.post enc Tryz.prog Tryz.f7 false true false false):=by
 refine handed_sized (C:=Tryz.checked) aiS started (by kernel_rfl) Tryz.func7
  (ChangeSpec.witness6 (enc:=enc) (C:=Tryz.checked) false ⟨#[], #[.agg #[.int .i64 0, .slice none 0 0, .slice none 0 0, .int .i64 0, .int .i64 0, .int .i64 0, .slice none 0 0], .slice none 0 0, .int .i64 0, .int .i64 0, .agg #[.int .i64 0, .int .i64 0, .bool false, .slice none 0 0, .bool false, .slice none 0 0, .string .empty, .bool false, .slice none 0 0, .slice none 0 0, .int .i64 0]],[]⟩ 8 (by kernel_rfl) (by kernel_rfl) (by kernel_rfl) (by kernel_rfl)) ?_
 intro W base args ds gs before hval hW hwt;refine con_true (m:=12) (tb:=4) agA (pr:=Tb 7) (aot awh alk) ?_ ?_ rfl (by kernel_rfl) (by kernel_rfl) (by kernel_rfl) rfl (by kernel_rfl) (by kernel_rfl) ?_ (globOk_none (by kernel_rfl)) hval hW hwt
 ·intro ds hl hs
  match ds,hl,hs with
  |[x0,x1,x2,x3,x4,x5,x6,x7,x8,x9,x10,x11,x12,aN,x14,x15,x16,x17,x18,x19,x20],_,hs=>first|trivial|exact okY (hs.str _ (by simp))|exact ay4 hs
 ·intro ds b hl h
  match ds,hl with
  |[x0,x1,x2,x3,x4,x5,x6,x7,x8,x9,x10,x11,x12,aN,x14,x15,x16,x17,x18,x19,x20],_=>exact h
 ·intro ds hl
  match ds,hl with
  |[d0,d1,d2,d3,d4],_=>rfl
theorem alm:Tryz.pinned.checked.prog.funcNamed Rows.runTellsRow.func=some 7:=by kernel_rfl
theorem aln:joinedFacts Tryz.pinned.checked.prog 7 Tryz.f7 Rows.runTellsSpec Rows.runTellsRow=true:=by kernel_rfl
theorem alo:Tryz.f7.isInstance Tryz.pinned.checked.prog Rows.runTellsRow.origin Rows.runTellsRow.targs:=of_decide_eq_true (by kernel_rfl)
theorem alp:Tryz.f7.isWrapper Tryz.pinned.checked.prog Rows.runTellsRow.wrapper Rows.runTellsRow.mainSum:=by unfold Func.isWrapper;first|(rw[if_pos (by decide+kernel)];kernel_rfl)|(rw[if_neg (by decide+kernel)];exact⟨rfl,rfl⟩)
theorem RTells_proved:Rows.RunTellsSaid:=
 OpenClaim.holds_of_wide 7 Tryz.f7 rfl rfl rfl rfl rfl rfl rfl ⟨rfl,rfl,rfl,rfl,rfl⟩ rfl rfl rfl rfl rfl alm Tryz.func7 aln alo alp
  (fun os started H enc _=>adh os started H enc)
end Go.Proofs.YtccbjhfdfbaekaaGreat
