/-
  NARROWER THAN 'FOR EVERY INPUT', by the rows' own cells (each row's printed sentence says how): IndexYears: laid · IndexGrowth: laid · IndexAdds: laid · IndexYearsOnly: laid · IndexBack: laid · IndexWrong: laid · IndexLearns: laid.
  DERIVED. THE GIVEN ROWS OF THIS SEAT. 7 by the template 'for every input the law returns true; each argument reads behind the call as it read before'; 0 by the template 'total and deterministic' (their statements: YtjljnieafhdkgaaGreatDoorTotals.lean).
  GIVEN WITH THE SEED: the statements are not yours to turn. If you find one false, say at which input.
  Laid BY PROGRAM, IN A SANDBOX (cutbox-rows.mjs): the forced cells as the released guide's own fill.sh prints them over the translation 406cc30957e12453… (all of the seat's roots in one cut). By AI agents, Wed Nov 11 2026. No macro, syntax, notation, axiom, sorry.
-/
import Derived.Test.YtjljnieafhdkgaaGreatDoorChecked
import GoSem.Claim
import GoSem.ClaimJoined
import GoSem.ClaimMapViews
import Derived.JoinedTies
import Derived.KernelRfl
namespace Go.Proofs.YtjljnieafhdkgaaGreatDoor
/- THE CELL 'sum', in the pinned program and in every row, IS THE sha256 OF THE DUMP (.gsa) THAT YtjljnieafhdkgaaGreatDoorProg.lean LOADS. Nothing in Lean hashes anything: it is a label: what it is worth is what the hold of that sum in a sandbox is worth. -/
noncomputable def Tryz.pinned : Pinned := { name := "ytjljnieafhdkgaagreatdoor", sum := "406cc30957e124531829a3f069e259c738ed64512afa5ec1b4aa80d13e4b7675", checked := Tryz.checked }
namespace Rows
def none {H : Type} : Left H := { results := [], args := [] }

/- WHAT THE LISTED PACKAGE-LEVEL VARIABLES READ AS WHEN THE CALL BEGINS. Each datum BY PROGRAM (the guide's laid-datum.mjs) off the statement by which the dump's own 'gosem.cut.vars' lays the variable. In a bare row this is a premise. The card (YtjljnieafhdkgaaGreatDoorCards.lean) ties it to the program's text. -/
def laid_annuitant_calendar_lengths {H : Type} : DataW H := .agg [.lit (.int .i64 31), .lit (.int .i64 28), .lit (.int .i64 31), .lit (.int .i64 30), .lit (.int .i64 31), .lit (.int .i64 30), .lit (.int .i64 31), .lit (.int .i64 31), .lit (.int .i64 30), .lit (.int .i64 31), .lit (.int .i64 30), .lit (.int .i64 31)]

/-- 'annuitantlaw10.IndexYears': WHATEVER THE INPUT: true; the input reads as it did. -/
def indexYearsSpec : ChangeSpec := { name := "indexYears", fn := fun _ => fun
  | [d1, d2] => { results := [.lit (.bool true)], args := [d1, d2] }
  | _ => none }
def indexYearsRow : OpenClaim := { program := "ytjljnieafhdkgaagreatdoor", sum := "406cc30957e124531829a3f069e259c738ed64512afa5ec1b4aa80d13e4b7675", func := "annuitant/annuitantlaw10.IndexYears", spec := "indexYears", unfollowed := true, recurses := true, named := ["annuitant/calendar.lengths", "math/bits.overflowError"], apart := false, laid := [("annuitant/calendar.lengths", laid_annuitant_calendar_lengths)] }
def IndexYearsSaid : Prop := indexYearsRow.holds Tryz.pinned (OpenSpec.ofChange indexYearsSpec)

/-- ITS FALSE NEIGHBOUR: 'it returns false'. Refute it at one input. -/
def indexYearsWrong : ChangeSpec := { name := "indexYears", fn := fun _ => fun
  | [d1, d2] => { results := [.lit (.bool false)], args := [d1, d2] }
  | _ => none }
def IndexYearsWrongFalsely : Prop := indexYearsRow.holds Tryz.pinned (OpenSpec.ofChange indexYearsWrong)

/-- 'annuitantlaw10.IndexGrowth': WHATEVER THE INPUT: true; the input reads as it did. -/
def indexGrowthSpec : ChangeSpec := { name := "indexGrowth", fn := fun _ => fun
  | [d1, d2, d3, d4] => { results := [.lit (.bool true)], args := [d1, d2, d3, d4] }
  | _ => none }
def indexGrowthRow : OpenClaim := { program := "ytjljnieafhdkgaagreatdoor", sum := "406cc30957e124531829a3f069e259c738ed64512afa5ec1b4aa80d13e4b7675", func := "annuitant/annuitantlaw10.IndexGrowth", spec := "indexGrowth", unfollowed := true, recurses := true, named := ["annuitant/calendar.lengths", "math/bits.overflowError"], apart := false, laid := [("annuitant/calendar.lengths", laid_annuitant_calendar_lengths)] }
def IndexGrowthSaid : Prop := indexGrowthRow.holds Tryz.pinned (OpenSpec.ofChange indexGrowthSpec)

/-- ITS FALSE NEIGHBOUR: 'it returns false'. Refute it at one input. -/
def indexGrowthWrong : ChangeSpec := { name := "indexGrowth", fn := fun _ => fun
  | [d1, d2, d3, d4] => { results := [.lit (.bool false)], args := [d1, d2, d3, d4] }
  | _ => none }
def IndexGrowthWrongFalsely : Prop := indexGrowthRow.holds Tryz.pinned (OpenSpec.ofChange indexGrowthWrong)

/-- 'annuitantlaw10.IndexAdds': WHATEVER THE INPUT: true; the input reads as it did. -/
def indexAddsSpec : ChangeSpec := { name := "indexAdds", fn := fun _ => fun
  | [d1, d2, d3, d4, d5] => { results := [.lit (.bool true)], args := [d1, d2, d3, d4, d5] }
  | _ => none }
def indexAddsRow : OpenClaim := { program := "ytjljnieafhdkgaagreatdoor", sum := "406cc30957e124531829a3f069e259c738ed64512afa5ec1b4aa80d13e4b7675", func := "annuitant/annuitantlaw10.IndexAdds", spec := "indexAdds", unfollowed := true, recurses := true, named := ["annuitant/calendar.lengths", "math/bits.overflowError"], apart := false, laid := [("annuitant/calendar.lengths", laid_annuitant_calendar_lengths)] }
def IndexAddsSaid : Prop := indexAddsRow.holds Tryz.pinned (OpenSpec.ofChange indexAddsSpec)

/-- ITS FALSE NEIGHBOUR: 'it returns false'. Refute it at one input. -/
def indexAddsWrong : ChangeSpec := { name := "indexAdds", fn := fun _ => fun
  | [d1, d2, d3, d4, d5] => { results := [.lit (.bool false)], args := [d1, d2, d3, d4, d5] }
  | _ => none }
def IndexAddsWrongFalsely : Prop := indexAddsRow.holds Tryz.pinned (OpenSpec.ofChange indexAddsWrong)

/-- 'annuitantlaw10.IndexYearsOnly': WHATEVER THE INPUT: true; the input reads as it did. -/
def indexYearsOnlySpec : ChangeSpec := { name := "indexYearsOnly", fn := fun _ => fun
  | [d1, d2, d3, d4] => { results := [.lit (.bool true)], args := [d1, d2, d3, d4] }
  | _ => none }
def indexYearsOnlyRow : OpenClaim := { program := "ytjljnieafhdkgaagreatdoor", sum := "406cc30957e124531829a3f069e259c738ed64512afa5ec1b4aa80d13e4b7675", func := "annuitant/annuitantlaw10.IndexYearsOnly", spec := "indexYearsOnly", unfollowed := true, recurses := true, named := ["annuitant/calendar.lengths", "math/bits.overflowError"], apart := false, laid := [("annuitant/calendar.lengths", laid_annuitant_calendar_lengths)] }
def IndexYearsOnlySaid : Prop := indexYearsOnlyRow.holds Tryz.pinned (OpenSpec.ofChange indexYearsOnlySpec)

/-- ITS FALSE NEIGHBOUR: 'it returns false'. Refute it at one input. -/
def indexYearsOnlyWrong : ChangeSpec := { name := "indexYearsOnly", fn := fun _ => fun
  | [d1, d2, d3, d4] => { results := [.lit (.bool false)], args := [d1, d2, d3, d4] }
  | _ => none }
def IndexYearsOnlyWrongFalsely : Prop := indexYearsOnlyRow.holds Tryz.pinned (OpenSpec.ofChange indexYearsOnlyWrong)

/-- 'annuitantlaw10.IndexBack': WHATEVER THE INPUT: true; the input reads as it did. -/
def indexBackSpec : ChangeSpec := { name := "indexBack", fn := fun _ => fun
  | [d1, d2, d3, d4, d5] => { results := [.lit (.bool true)], args := [d1, d2, d3, d4, d5] }
  | _ => none }
def indexBackRow : OpenClaim := { program := "ytjljnieafhdkgaagreatdoor", sum := "406cc30957e124531829a3f069e259c738ed64512afa5ec1b4aa80d13e4b7675", func := "annuitant/annuitantlaw10.IndexBack", spec := "indexBack", unfollowed := true, recurses := true, named := ["annuitant/calendar.lengths", "math/bits.overflowError"], apart := false, laid := [("annuitant/calendar.lengths", laid_annuitant_calendar_lengths)] }
def IndexBackSaid : Prop := indexBackRow.holds Tryz.pinned (OpenSpec.ofChange indexBackSpec)

/-- ITS FALSE NEIGHBOUR: 'it returns false'. Refute it at one input. -/
def indexBackWrong : ChangeSpec := { name := "indexBack", fn := fun _ => fun
  | [d1, d2, d3, d4, d5] => { results := [.lit (.bool false)], args := [d1, d2, d3, d4, d5] }
  | _ => none }
def IndexBackWrongFalsely : Prop := indexBackRow.holds Tryz.pinned (OpenSpec.ofChange indexBackWrong)

/-- 'annuitantlaw10.IndexWrong': WHATEVER THE INPUT: true; the input reads as it did. -/
def indexWrongSpec : ChangeSpec := { name := "indexWrong", fn := fun _ => fun
  | [d1, d2, d3, d4] => { results := [.lit (.bool true)], args := [d1, d2, d3, d4] }
  | _ => none }
def indexWrongRow : OpenClaim := { program := "ytjljnieafhdkgaagreatdoor", sum := "406cc30957e124531829a3f069e259c738ed64512afa5ec1b4aa80d13e4b7675", func := "annuitant/annuitantlaw10.IndexWrong", spec := "indexWrong", unfollowed := true, recurses := true, named := ["annuitant/calendar.lengths", "math/bits.overflowError"], apart := false, laid := [("annuitant/calendar.lengths", laid_annuitant_calendar_lengths)] }
def IndexWrongSaid : Prop := indexWrongRow.holds Tryz.pinned (OpenSpec.ofChange indexWrongSpec)

/-- ITS FALSE NEIGHBOUR: 'it returns false'. Refute it at one input. -/
def indexWrongWrong : ChangeSpec := { name := "indexWrong", fn := fun _ => fun
  | [d1, d2, d3, d4] => { results := [.lit (.bool false)], args := [d1, d2, d3, d4] }
  | _ => none }
def IndexWrongWrongFalsely : Prop := indexWrongRow.holds Tryz.pinned (OpenSpec.ofChange indexWrongWrong)

/-- 'annuitantlaw10.IndexLearns': WHATEVER THE INPUT: true; the input reads as it did. -/
def indexLearnsSpec : ChangeSpec := { name := "indexLearns", fn := fun _ => fun
  | [d1, d2, d3, d4, d5, d6] => { results := [.lit (.bool true)], args := [d1, d2, d3, d4, d5, d6] }
  | _ => none }
def indexLearnsRow : OpenClaim := { program := "ytjljnieafhdkgaagreatdoor", sum := "406cc30957e124531829a3f069e259c738ed64512afa5ec1b4aa80d13e4b7675", func := "annuitant/annuitantlaw10.IndexLearns", spec := "indexLearns", inPlace := ["slices.overlaps[annuitant/api.Row]"], unfollowed := true, recurses := true, named := ["annuitant/calendar.lengths", "math/bits.overflowError"], apart := false, laid := [("annuitant/calendar.lengths", laid_annuitant_calendar_lengths)] }
def IndexLearnsSaid : Prop := indexLearnsRow.holds Tryz.pinned (OpenSpec.ofChange indexLearnsSpec)

/-- ITS FALSE NEIGHBOUR: 'it returns false'. Refute it at one input. -/
def indexLearnsWrong : ChangeSpec := { name := "indexLearns", fn := fun _ => fun
  | [d1, d2, d3, d4, d5, d6] => { results := [.lit (.bool false)], args := [d1, d2, d3, d4, d5, d6] }
  | _ => none }
def IndexLearnsWrongFalsely : Prop := indexLearnsRow.holds Tryz.pinned (OpenSpec.ofChange indexLearnsWrong)

/- THE SECOND FORM. 'bulk': how many values and letters a reading holds, each counted each time it is reached (what is shared counts as often as it is met; a slice's spare places count too). A statement '..UptoSaid' is the law's where the arguments, and the package variables that the reading takes, are together of bulk at most 1048576: NARROWER than '..Said'. Prove '..Said' where nothing that the law and all that it calls make is longer than what came in: it says more and counts as full. Else prove '..UptoSaid'. A law counts once. -/
mutual
def uptoBulk {H : Type} : DataW H → Nat
  | .lit (.string bytes) => bytes.length + 1
  | .lit _ => 1
  | .nil => 1
  | .ptr d => uptoBulk d + 1
  | .slice elems spare => uptoBulkAll elems + uptoBulkAll spare + 1
  | .agg parts => uptoBulkAll parts + 1
  | .iface _ d => uptoBulk d + 1
  | .map entries => uptoBulkEntries entries + 1
  | .held _ => 1
def uptoBulkAll {H : Type} : List (DataW H) → Nat
  | [] => 0
  | d :: r => uptoBulk d + uptoBulkAll r
def uptoBulkEntries {H : Type} : List (Lit × DataW H) → Nat
  | [] => 0
  | x :: r => uptoBulkEntry x + uptoBulkEntries r
def uptoBulkEntry {H : Type} : Lit × DataW H → Nat
  | (.string bytes, d) => bytes.length + uptoBulk d + 1
  | (_, d) => uptoBulk d + 1
 end
def uptoSmall : (H : Type) → List (DataW H) → Bool := fun _ ds => decide (uptoBulkAll ds ≤ 1048576)
def OpenSpec.upto (s : _root_.Go.ChangeSpec) : _root_.Go.OpenSpec := { _root_.Go.OpenSpec.ofChange s with cond := some uptoSmall }

/-- 'annuitantlaw10.IndexYears', WHERE WHAT IT READS IS OF BULK AT MOST 1048576: true; the input reads as it did. -/
def indexYearsUptoRow : OpenClaim := { program := "ytjljnieafhdkgaagreatdoor", sum := "406cc30957e124531829a3f069e259c738ed64512afa5ec1b4aa80d13e4b7675", func := "annuitant/annuitantlaw10.IndexYears", spec := "indexYears", unfollowed := true, recurses := true, named := ["annuitant/calendar.lengths", "math/bits.overflowError"], apart := false, laid := [("annuitant/calendar.lengths", laid_annuitant_calendar_lengths)], narrowed := true }
def IndexYearsUptoSaid : Prop := indexYearsUptoRow.holds Tryz.pinned (OpenSpec.upto indexYearsSpec)

/-- 'annuitantlaw10.IndexGrowth', WHERE WHAT IT READS IS OF BULK AT MOST 1048576: true; the input reads as it did. -/
def indexGrowthUptoRow : OpenClaim := { program := "ytjljnieafhdkgaagreatdoor", sum := "406cc30957e124531829a3f069e259c738ed64512afa5ec1b4aa80d13e4b7675", func := "annuitant/annuitantlaw10.IndexGrowth", spec := "indexGrowth", unfollowed := true, recurses := true, named := ["annuitant/calendar.lengths", "math/bits.overflowError"], apart := false, laid := [("annuitant/calendar.lengths", laid_annuitant_calendar_lengths)], narrowed := true }
def IndexGrowthUptoSaid : Prop := indexGrowthUptoRow.holds Tryz.pinned (OpenSpec.upto indexGrowthSpec)

/-- 'annuitantlaw10.IndexAdds', WHERE WHAT IT READS IS OF BULK AT MOST 1048576: true; the input reads as it did. -/
def indexAddsUptoRow : OpenClaim := { program := "ytjljnieafhdkgaagreatdoor", sum := "406cc30957e124531829a3f069e259c738ed64512afa5ec1b4aa80d13e4b7675", func := "annuitant/annuitantlaw10.IndexAdds", spec := "indexAdds", unfollowed := true, recurses := true, named := ["annuitant/calendar.lengths", "math/bits.overflowError"], apart := false, laid := [("annuitant/calendar.lengths", laid_annuitant_calendar_lengths)], narrowed := true }
def IndexAddsUptoSaid : Prop := indexAddsUptoRow.holds Tryz.pinned (OpenSpec.upto indexAddsSpec)

/-- 'annuitantlaw10.IndexYearsOnly', WHERE WHAT IT READS IS OF BULK AT MOST 1048576: true; the input reads as it did. -/
def indexYearsOnlyUptoRow : OpenClaim := { program := "ytjljnieafhdkgaagreatdoor", sum := "406cc30957e124531829a3f069e259c738ed64512afa5ec1b4aa80d13e4b7675", func := "annuitant/annuitantlaw10.IndexYearsOnly", spec := "indexYearsOnly", unfollowed := true, recurses := true, named := ["annuitant/calendar.lengths", "math/bits.overflowError"], apart := false, laid := [("annuitant/calendar.lengths", laid_annuitant_calendar_lengths)], narrowed := true }
def IndexYearsOnlyUptoSaid : Prop := indexYearsOnlyUptoRow.holds Tryz.pinned (OpenSpec.upto indexYearsOnlySpec)

/-- 'annuitantlaw10.IndexBack', WHERE WHAT IT READS IS OF BULK AT MOST 1048576: true; the input reads as it did. -/
def indexBackUptoRow : OpenClaim := { program := "ytjljnieafhdkgaagreatdoor", sum := "406cc30957e124531829a3f069e259c738ed64512afa5ec1b4aa80d13e4b7675", func := "annuitant/annuitantlaw10.IndexBack", spec := "indexBack", unfollowed := true, recurses := true, named := ["annuitant/calendar.lengths", "math/bits.overflowError"], apart := false, laid := [("annuitant/calendar.lengths", laid_annuitant_calendar_lengths)], narrowed := true }
def IndexBackUptoSaid : Prop := indexBackUptoRow.holds Tryz.pinned (OpenSpec.upto indexBackSpec)

/-- 'annuitantlaw10.IndexWrong', WHERE WHAT IT READS IS OF BULK AT MOST 1048576: true; the input reads as it did. -/
def indexWrongUptoRow : OpenClaim := { program := "ytjljnieafhdkgaagreatdoor", sum := "406cc30957e124531829a3f069e259c738ed64512afa5ec1b4aa80d13e4b7675", func := "annuitant/annuitantlaw10.IndexWrong", spec := "indexWrong", unfollowed := true, recurses := true, named := ["annuitant/calendar.lengths", "math/bits.overflowError"], apart := false, laid := [("annuitant/calendar.lengths", laid_annuitant_calendar_lengths)], narrowed := true }
def IndexWrongUptoSaid : Prop := indexWrongUptoRow.holds Tryz.pinned (OpenSpec.upto indexWrongSpec)

/-- 'annuitantlaw10.IndexLearns', WHERE WHAT IT READS IS OF BULK AT MOST 1048576: true; the input reads as it did. -/
def indexLearnsUptoRow : OpenClaim := { program := "ytjljnieafhdkgaagreatdoor", sum := "406cc30957e124531829a3f069e259c738ed64512afa5ec1b4aa80d13e4b7675", func := "annuitant/annuitantlaw10.IndexLearns", spec := "indexLearns", inPlace := ["slices.overlaps[annuitant/api.Row]"], unfollowed := true, recurses := true, named := ["annuitant/calendar.lengths", "math/bits.overflowError"], apart := false, laid := [("annuitant/calendar.lengths", laid_annuitant_calendar_lengths)], narrowed := true }
def IndexLearnsUptoSaid : Prop := indexLearnsUptoRow.holds Tryz.pinned (OpenSpec.upto indexLearnsSpec)

end Rows
end Go.Proofs.YtjljnieafhdkgaaGreatDoor
