/-
  No cell of these rows narrows 'for every input' (looked for: loops, veiled, ifaces, maps, wideKeys, modest, calm, conditions, laid).
  DERIVED. THE GIVEN ROWS OF THIS SEAT. 5 by the template 'for every input the law returns true; each argument reads behind the call as it read before'; 0 by the template 'total and deterministic' (their statements: YtccbjhfdfbaekaaGreatTotals.lean).
  GIVEN WITH THE SEED: the statements are not yours to turn. If you find one false, say at which input.
  Laid BY PROGRAM, IN A SANDBOX (cutbox-rows.mjs): the forced cells as the released guide's own fill.sh prints them over the translation c0739fbb7724acfc… (all of the seat's roots in one cut). By AI agents, Wed Nov 11 2026. No macro, syntax, notation, axiom, sorry.
-/
import Derived.Test.YtccbjhfdfbaekaaGreatChecked
import GoSem.Claim
import GoSem.ClaimJoined
import GoSem.ClaimMapViews
import Derived.JoinedTies
import Derived.KernelRfl
namespace Go.Proofs.YtccbjhfdfbaekaaGreat
/- THE CELL 'sum', in the pinned program and in every row, IS THE sha256 OF THE DUMP (.gsa) THAT YtccbjhfdfbaekaaGreatProg.lean LOADS. Nothing in Lean hashes anything: it is a label: what it is worth is what the hold of that sum in a sandbox is worth. -/
noncomputable def Tryz.pinned : Pinned := { name := "ytccbjhfdfbaekaagreat", sum := "c0739fbb7724acfcfc61e59c3feb7c075acbde78923425e81c5cb94037d8f184", checked := Tryz.checked }
namespace Rows
def none {H : Type} : Left H := { results := [], args := [] }

/-- 'annuitantlaw35.RunCorrects': WHATEVER THE INPUT: true; the input reads as it did. -/
def runCorrectsSpec : ChangeSpec := { name := "runCorrects", fn := fun _ => fun
  | [d1, d2, d3, d4] => { results := [.lit (.bool true)], args := [d1, d2, d3, d4] }
  | _ => none }
def runCorrectsRow : OpenClaim := { program := "ytccbjhfdfbaekaagreat", sum := "c0739fbb7724acfcfc61e59c3feb7c075acbde78923425e81c5cb94037d8f184", func := "annuitant/annuitantlaw35.RunCorrects", spec := "runCorrects", unfollowed := true, recurses := true, named := ["math/bits.overflowError"], apart := false }
def RunCorrectsSaid : Prop := runCorrectsRow.holds Tryz.pinned (OpenSpec.ofChange runCorrectsSpec)

/-- ITS FALSE NEIGHBOUR: 'it returns false'. Refute it at one input. -/
def runCorrectsWrong : ChangeSpec := { name := "runCorrects", fn := fun _ => fun
  | [d1, d2, d3, d4] => { results := [.lit (.bool false)], args := [d1, d2, d3, d4] }
  | _ => none }
def RunCorrectsWrongFalsely : Prop := runCorrectsRow.holds Tryz.pinned (OpenSpec.ofChange runCorrectsWrong)

/-- 'annuitantlaw35.RunBacks': WHATEVER THE INPUT: true; the input reads as it did. -/
def runBacksSpec : ChangeSpec := { name := "runBacks", fn := fun _ => fun
  | [d1, d2, d3] => { results := [.lit (.bool true)], args := [d1, d2, d3] }
  | _ => none }
def runBacksRow : OpenClaim := { program := "ytccbjhfdfbaekaagreat", sum := "c0739fbb7724acfcfc61e59c3feb7c075acbde78923425e81c5cb94037d8f184", func := "annuitant/annuitantlaw35.RunBacks", spec := "runBacks", unfollowed := true, recurses := true, named := ["math/bits.overflowError"], apart := false }
def RunBacksSaid : Prop := runBacksRow.holds Tryz.pinned (OpenSpec.ofChange runBacksSpec)

/-- ITS FALSE NEIGHBOUR: 'it returns false'. Refute it at one input. -/
def runBacksWrong : ChangeSpec := { name := "runBacks", fn := fun _ => fun
  | [d1, d2, d3] => { results := [.lit (.bool false)], args := [d1, d2, d3] }
  | _ => none }
def RunBacksWrongFalsely : Prop := runBacksRow.holds Tryz.pinned (OpenSpec.ofChange runBacksWrong)

/-- 'annuitantlaw35.RunOnce': WHATEVER THE INPUT: true; the input reads as it did. -/
def runOnceSpec : ChangeSpec := { name := "runOnce", fn := fun _ => fun
  | [d1, d2, d3, d4, d5, d6] => { results := [.lit (.bool true)], args := [d1, d2, d3, d4, d5, d6] }
  | _ => none }
def runOnceRow : OpenClaim := { program := "ytccbjhfdfbaekaagreat", sum := "c0739fbb7724acfcfc61e59c3feb7c075acbde78923425e81c5cb94037d8f184", func := "annuitant/annuitantlaw35.RunOnce", spec := "runOnce", unfollowed := true, recurses := true, named := ["math/bits.overflowError"], apart := false }
def RunOnceSaid : Prop := runOnceRow.holds Tryz.pinned (OpenSpec.ofChange runOnceSpec)

/-- ITS FALSE NEIGHBOUR: 'it returns false'. Refute it at one input. -/
def runOnceWrong : ChangeSpec := { name := "runOnce", fn := fun _ => fun
  | [d1, d2, d3, d4, d5, d6] => { results := [.lit (.bool false)], args := [d1, d2, d3, d4, d5, d6] }
  | _ => none }
def RunOnceWrongFalsely : Prop := runOnceRow.holds Tryz.pinned (OpenSpec.ofChange runOnceWrong)

/-- 'annuitantlaw35.RunTaxes': WHATEVER THE INPUT: true; the input reads as it did. -/
def runTaxesSpec : ChangeSpec := { name := "runTaxes", fn := fun _ => fun
  | [d1, d2, d3] => { results := [.lit (.bool true)], args := [d1, d2, d3] }
  | _ => none }
def runTaxesRow : OpenClaim := { program := "ytccbjhfdfbaekaagreat", sum := "c0739fbb7724acfcfc61e59c3feb7c075acbde78923425e81c5cb94037d8f184", func := "annuitant/annuitantlaw35.RunTaxes", spec := "runTaxes", unfollowed := true, recurses := true, named := ["math/bits.overflowError"], apart := false }
def RunTaxesSaid : Prop := runTaxesRow.holds Tryz.pinned (OpenSpec.ofChange runTaxesSpec)

/-- ITS FALSE NEIGHBOUR: 'it returns false'. Refute it at one input. -/
def runTaxesWrong : ChangeSpec := { name := "runTaxes", fn := fun _ => fun
  | [d1, d2, d3] => { results := [.lit (.bool false)], args := [d1, d2, d3] }
  | _ => none }
def RunTaxesWrongFalsely : Prop := runTaxesRow.holds Tryz.pinned (OpenSpec.ofChange runTaxesWrong)

/-- 'annuitantlaw35.RunTells': WHATEVER THE INPUT: true; the input reads as it did. -/
def runTellsSpec : ChangeSpec := { name := "runTells", fn := fun _ => fun
  | [d1, d2, d3, d4, d5] => { results := [.lit (.bool true)], args := [d1, d2, d3, d4, d5] }
  | _ => none }
def runTellsRow : OpenClaim := { program := "ytccbjhfdfbaekaagreat", sum := "c0739fbb7724acfcfc61e59c3feb7c075acbde78923425e81c5cb94037d8f184", func := "annuitant/annuitantlaw35.RunTells", spec := "runTells", unfollowed := true, recurses := true, named := ["math/bits.overflowError"], apart := false }
def RunTellsSaid : Prop := runTellsRow.holds Tryz.pinned (OpenSpec.ofChange runTellsSpec)

/-- ITS FALSE NEIGHBOUR: 'it returns false'. Refute it at one input. -/
def runTellsWrong : ChangeSpec := { name := "runTells", fn := fun _ => fun
  | [d1, d2, d3, d4, d5] => { results := [.lit (.bool false)], args := [d1, d2, d3, d4, d5] }
  | _ => none }
def RunTellsWrongFalsely : Prop := runTellsRow.holds Tryz.pinned (OpenSpec.ofChange runTellsWrong)

/- THE SECOND FORM. 'bulk': how many values and letters a reading holds, each counted each time it is reached (what is shared counts as often as it is met; a slice's spare places count too). A statement '..UptoSaid' is the law's where the arguments, and the package variables that the reading takes, are together of bulk at most 1048576: NARROWER than '..Said'. Prove '..Said' where nothing that the law and all that it calls make is longer than what came in: it says more and counts as full. Else prove '..UptoSaid'. A law counts once. -/
mutual
def uptoBulk {H : Type} : DataW H → Nat
  | .lit (.string bytes) => bytes.length + 1
  | .lit _ => 1
  | .nil => 1
  | .ptr d => uptoBulk d + 1
  | .slice elems spare => uptoBulkAll elems + uptoBulkAll spare + 1
  | .agg parts => uptoBulkAll parts + 1
  | .iface _ d => uptoBulk d + 1
  | .map entries => uptoBulkEntries entries + 1
  | .held _ => 1
def uptoBulkAll {H : Type} : List (DataW H) → Nat
  | [] => 0
  | d :: r => uptoBulk d + uptoBulkAll r
def uptoBulkEntries {H : Type} : List (Lit × DataW H) → Nat
  | [] => 0
  | x :: r => uptoBulkEntry x + uptoBulkEntries r
def uptoBulkEntry {H : Type} : Lit × DataW H → Nat
  | (.string bytes, d) => bytes.length + uptoBulk d + 1
  | (_, d) => uptoBulk d + 1
 end
def uptoSmall : (H : Type) → List (DataW H) → Bool := fun _ ds => decide (uptoBulkAll ds ≤ 1048576)
def OpenSpec.upto (s : _root_.Go.ChangeSpec) : _root_.Go.OpenSpec := { _root_.Go.OpenSpec.ofChange s with cond := some uptoSmall }

/-- 'annuitantlaw35.RunCorrects', WHERE WHAT IT READS IS OF BULK AT MOST 1048576: true; the input reads as it did. -/
def runCorrectsUptoRow : OpenClaim := { program := "ytccbjhfdfbaekaagreat", sum := "c0739fbb7724acfcfc61e59c3feb7c075acbde78923425e81c5cb94037d8f184", func := "annuitant/annuitantlaw35.RunCorrects", spec := "runCorrects", unfollowed := true, recurses := true, named := ["math/bits.overflowError"], apart := false, narrowed := true }
def RunCorrectsUptoSaid : Prop := runCorrectsUptoRow.holds Tryz.pinned (OpenSpec.upto runCorrectsSpec)

/-- 'annuitantlaw35.RunBacks', WHERE WHAT IT READS IS OF BULK AT MOST 1048576: true; the input reads as it did. -/
def runBacksUptoRow : OpenClaim := { program := "ytccbjhfdfbaekaagreat", sum := "c0739fbb7724acfcfc61e59c3feb7c075acbde78923425e81c5cb94037d8f184", func := "annuitant/annuitantlaw35.RunBacks", spec := "runBacks", unfollowed := true, recurses := true, named := ["math/bits.overflowError"], apart := false, narrowed := true }
def RunBacksUptoSaid : Prop := runBacksUptoRow.holds Tryz.pinned (OpenSpec.upto runBacksSpec)

/-- 'annuitantlaw35.RunOnce', WHERE WHAT IT READS IS OF BULK AT MOST 1048576: true; the input reads as it did. -/
def runOnceUptoRow : OpenClaim := { program := "ytccbjhfdfbaekaagreat", sum := "c0739fbb7724acfcfc61e59c3feb7c075acbde78923425e81c5cb94037d8f184", func := "annuitant/annuitantlaw35.RunOnce", spec := "runOnce", unfollowed := true, recurses := true, named := ["math/bits.overflowError"], apart := false, narrowed := true }
def RunOnceUptoSaid : Prop := runOnceUptoRow.holds Tryz.pinned (OpenSpec.upto runOnceSpec)

/-- 'annuitantlaw35.RunTaxes', WHERE WHAT IT READS IS OF BULK AT MOST 1048576: true; the input reads as it did. -/
def runTaxesUptoRow : OpenClaim := { program := "ytccbjhfdfbaekaagreat", sum := "c0739fbb7724acfcfc61e59c3feb7c075acbde78923425e81c5cb94037d8f184", func := "annuitant/annuitantlaw35.RunTaxes", spec := "runTaxes", unfollowed := true, recurses := true, named := ["math/bits.overflowError"], apart := false, narrowed := true }
def RunTaxesUptoSaid : Prop := runTaxesUptoRow.holds Tryz.pinned (OpenSpec.upto runTaxesSpec)

/-- 'annuitantlaw35.RunTells', WHERE WHAT IT READS IS OF BULK AT MOST 1048576: true; the input reads as it did. -/
def runTellsUptoRow : OpenClaim := { program := "ytccbjhfdfbaekaagreat", sum := "c0739fbb7724acfcfc61e59c3feb7c075acbde78923425e81c5cb94037d8f184", func := "annuitant/annuitantlaw35.RunTells", spec := "runTells", unfollowed := true, recurses := true, named := ["math/bits.overflowError"], apart := false, narrowed := true }
def RunTellsUptoSaid : Prop := runTellsUptoRow.holds Tryz.pinned (OpenSpec.upto runTellsSpec)

end Rows
end Go.Proofs.YtccbjhfdfbaekaaGreat
