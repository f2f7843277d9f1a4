/-
  No cell of these rows narrows 'for every input' (looked for: loops, veiled, ifaces, maps, wideKeys, modest, calm, conditions, laid).
  DERIVED. THE GIVEN ROWS OF THIS SEAT. 11 by the template 'for every input the law returns true; each argument reads behind the call as it read before'; 0 by the template 'total and deterministic' (their statements: YtedajccdbdlaoaaGreatTotals.lean).
  GIVEN WITH THE SEED: the statements are not yours to turn. If you find one false, say at which input.
  Laid BY PROGRAM, IN A SANDBOX (cutbox-rows.mjs): the forced cells as the released guide's own fill.sh prints them over the translation 2aace1df99866a5f… (all of the seat's roots in one cut). By AI agents, Wed Nov 11 2026. No macro, syntax, notation, axiom, sorry.
-/
import Derived.Test.YtedajccdbdlaoaaGreatChecked
import GoSem.Claim
import GoSem.ClaimJoined
import GoSem.ClaimMapViews
import Derived.JoinedTies
import Derived.KernelRfl
namespace Go.Proofs.YtedajccdbdlaoaaGreat
/- THE CELL 'sum', in the pinned program and in every row, IS THE sha256 OF THE DUMP (.gsa) THAT YtedajccdbdlaoaaGreatProg.lean LOADS. Nothing in Lean hashes anything: it is a label: what it is worth is what the hold of that sum in a sandbox is worth. -/
noncomputable def Tryz.pinned : Pinned := { name := "ytedajccdbdlaoaagreat", sum := "2aace1df99866a5fcc7612294e8b4b77ec47d1b280158b268f9fe7aaa881ce2a", checked := Tryz.checked }
namespace Rows
def none {H : Type} : Left H := { results := [], args := [] }

/-- 'annuitantlaw34.TaxTells': WHATEVER THE INPUT: true; the input reads as it did. -/
def taxTellsSpec : ChangeSpec := { name := "taxTells", fn := fun _ => fun
  | [d1, d2, d3] => { results := [.lit (.bool true)], args := [d1, d2, d3] }
  | _ => none }
def taxTellsRow : OpenClaim := { program := "ytedajccdbdlaoaagreat", sum := "2aace1df99866a5fcc7612294e8b4b77ec47d1b280158b268f9fe7aaa881ce2a", func := "annuitant/annuitantlaw34.TaxTells", spec := "taxTells", unfollowed := true, recurses := true, named := ["math/bits.overflowError"], apart := false }
def TaxTellsSaid : Prop := taxTellsRow.holds Tryz.pinned (OpenSpec.ofChange taxTellsSpec)

/-- ITS FALSE NEIGHBOUR: 'it returns false'. Refute it at one input. -/
def taxTellsWrong : ChangeSpec := { name := "taxTells", fn := fun _ => fun
  | [d1, d2, d3] => { results := [.lit (.bool false)], args := [d1, d2, d3] }
  | _ => none }
def TaxTellsWrongFalsely : Prop := taxTellsRow.holds Tryz.pinned (OpenSpec.ofChange taxTellsWrong)

/-- 'annuitantlaw34.TaxWithholds': WHATEVER THE INPUT: true; the input reads as it did. -/
def taxWithholdsSpec : ChangeSpec := { name := "taxWithholds", fn := fun _ => fun
  | [d1, d2, d3] => { results := [.lit (.bool true)], args := [d1, d2, d3] }
  | _ => none }
def taxWithholdsRow : OpenClaim := { program := "ytedajccdbdlaoaagreat", sum := "2aace1df99866a5fcc7612294e8b4b77ec47d1b280158b268f9fe7aaa881ce2a", func := "annuitant/annuitantlaw34.TaxWithholds", spec := "taxWithholds", unfollowed := true, recurses := true, named := ["math/bits.overflowError"], apart := false }
def TaxWithholdsSaid : Prop := taxWithholdsRow.holds Tryz.pinned (OpenSpec.ofChange taxWithholdsSpec)

/-- ITS FALSE NEIGHBOUR: 'it returns false'. Refute it at one input. -/
def taxWithholdsWrong : ChangeSpec := { name := "taxWithholds", fn := fun _ => fun
  | [d1, d2, d3] => { results := [.lit (.bool false)], args := [d1, d2, d3] }
  | _ => none }
def TaxWithholdsWrongFalsely : Prop := taxWithholdsRow.holds Tryz.pinned (OpenSpec.ofChange taxWithholdsWrong)

/-- 'annuitantlaw34.TaxSmall': WHATEVER THE INPUT: true; the input reads as it did. -/
def taxSmallSpec : ChangeSpec := { name := "taxSmall", fn := fun _ => fun
  | [] => { results := [.lit (.bool true)], args := [] }
  | _ => none }
def taxSmallRow : OpenClaim := { program := "ytedajccdbdlaoaagreat", sum := "2aace1df99866a5fcc7612294e8b4b77ec47d1b280158b268f9fe7aaa881ce2a", func := "annuitant/annuitantlaw34.TaxSmall", spec := "taxSmall", unfollowed := true, recurses := true, named := ["math/bits.overflowError"], apart := false }
def TaxSmallSaid : Prop := taxSmallRow.holds Tryz.pinned (OpenSpec.ofChange taxSmallSpec)

/-- ITS FALSE NEIGHBOUR: 'it returns false'. Refute it at one input. -/
def taxSmallWrong : ChangeSpec := { name := "taxSmall", fn := fun _ => fun
  | [] => { results := [.lit (.bool false)], args := [] }
  | _ => none }
def TaxSmallWrongFalsely : Prop := taxSmallRow.holds Tryz.pinned (OpenSpec.ofChange taxSmallWrong)

/-- 'annuitantlaw34.TaxEven': WHATEVER THE INPUT: true; the input reads as it did. -/
def taxEvenSpec : ChangeSpec := { name := "taxEven", fn := fun _ => fun
  | [d1, d2] => { results := [.lit (.bool true)], args := [d1, d2] }
  | _ => none }
def taxEvenRow : OpenClaim := { program := "ytedajccdbdlaoaagreat", sum := "2aace1df99866a5fcc7612294e8b4b77ec47d1b280158b268f9fe7aaa881ce2a", func := "annuitant/annuitantlaw34.TaxEven", spec := "taxEven", unfollowed := true, recurses := true, named := ["math/bits.overflowError"], apart := false }
def TaxEvenSaid : Prop := taxEvenRow.holds Tryz.pinned (OpenSpec.ofChange taxEvenSpec)

/-- ITS FALSE NEIGHBOUR: 'it returns false'. Refute it at one input. -/
def taxEvenWrong : ChangeSpec := { name := "taxEven", fn := fun _ => fun
  | [d1, d2] => { results := [.lit (.bool false)], args := [d1, d2] }
  | _ => none }
def TaxEvenWrongFalsely : Prop := taxEvenRow.holds Tryz.pinned (OpenSpec.ofChange taxEvenWrong)

/-- 'annuitantlaw34.TaxGrows': WHATEVER THE INPUT: true; the input reads as it did. -/
def taxGrowsSpec : ChangeSpec := { name := "taxGrows", fn := fun _ => fun
  | [d1, d2, d3] => { results := [.lit (.bool true)], args := [d1, d2, d3] }
  | _ => none }
def taxGrowsRow : OpenClaim := { program := "ytedajccdbdlaoaagreat", sum := "2aace1df99866a5fcc7612294e8b4b77ec47d1b280158b268f9fe7aaa881ce2a", func := "annuitant/annuitantlaw34.TaxGrows", spec := "taxGrows", unfollowed := true, recurses := true, named := ["math/bits.overflowError"], apart := false }
def TaxGrowsSaid : Prop := taxGrowsRow.holds Tryz.pinned (OpenSpec.ofChange taxGrowsSpec)

/-- ITS FALSE NEIGHBOUR: 'it returns false'. Refute it at one input. -/
def taxGrowsWrong : ChangeSpec := { name := "taxGrows", fn := fun _ => fun
  | [d1, d2, d3] => { results := [.lit (.bool false)], args := [d1, d2, d3] }
  | _ => none }
def TaxGrowsWrongFalsely : Prop := taxGrowsRow.holds Tryz.pinned (OpenSpec.ofChange taxGrowsWrong)

/-- 'annuitantlaw34.TaxAnew': WHATEVER THE INPUT: true; the input reads as it did. -/
def taxAnewSpec : ChangeSpec := { name := "taxAnew", fn := fun _ => fun
  | [d1, d2, d3] => { results := [.lit (.bool true)], args := [d1, d2, d3] }
  | _ => none }
def taxAnewRow : OpenClaim := { program := "ytedajccdbdlaoaagreat", sum := "2aace1df99866a5fcc7612294e8b4b77ec47d1b280158b268f9fe7aaa881ce2a", func := "annuitant/annuitantlaw34.TaxAnew", spec := "taxAnew", unfollowed := true, recurses := true, named := ["math/bits.overflowError"], apart := false }
def TaxAnewSaid : Prop := taxAnewRow.holds Tryz.pinned (OpenSpec.ofChange taxAnewSpec)

/-- ITS FALSE NEIGHBOUR: 'it returns false'. Refute it at one input. -/
def taxAnewWrong : ChangeSpec := { name := "taxAnew", fn := fun _ => fun
  | [d1, d2, d3] => { results := [.lit (.bool false)], args := [d1, d2, d3] }
  | _ => none }
def TaxAnewWrongFalsely : Prop := taxAnewRow.holds Tryz.pinned (OpenSpec.ofChange taxAnewWrong)

/-- 'annuitantlaw34.TaxYear': WHATEVER THE INPUT: true; the input reads as it did. -/
def taxYearSpec : ChangeSpec := { name := "taxYear", fn := fun _ => fun
  | [d1, d2, d3] => { results := [.lit (.bool true)], args := [d1, d2, d3] }
  | _ => none }
def taxYearRow : OpenClaim := { program := "ytedajccdbdlaoaagreat", sum := "2aace1df99866a5fcc7612294e8b4b77ec47d1b280158b268f9fe7aaa881ce2a", func := "annuitant/annuitantlaw34.TaxYear", spec := "taxYear", unfollowed := true, recurses := true, named := ["math/bits.overflowError"], apart := false }
def TaxYearSaid : Prop := taxYearRow.holds Tryz.pinned (OpenSpec.ofChange taxYearSpec)

/-- ITS FALSE NEIGHBOUR: 'it returns false'. Refute it at one input. -/
def taxYearWrong : ChangeSpec := { name := "taxYear", fn := fun _ => fun
  | [d1, d2, d3] => { results := [.lit (.bool false)], args := [d1, d2, d3] }
  | _ => none }
def TaxYearWrongFalsely : Prop := taxYearRow.holds Tryz.pinned (OpenSpec.ofChange taxYearWrong)

/-- 'annuitantlaw34.TaxFlat': WHATEVER THE INPUT: true; the input reads as it did. -/
def taxFlatSpec : ChangeSpec := { name := "taxFlat", fn := fun _ => fun
  | [d1, d2, d3] => { results := [.lit (.bool true)], args := [d1, d2, d3] }
  | _ => none }
def taxFlatRow : OpenClaim := { program := "ytedajccdbdlaoaagreat", sum := "2aace1df99866a5fcc7612294e8b4b77ec47d1b280158b268f9fe7aaa881ce2a", func := "annuitant/annuitantlaw34.TaxFlat", spec := "taxFlat", unfollowed := true, recurses := true, named := ["math/bits.overflowError"], apart := false }
def TaxFlatSaid : Prop := taxFlatRow.holds Tryz.pinned (OpenSpec.ofChange taxFlatSpec)

/-- ITS FALSE NEIGHBOUR: 'it returns false'. Refute it at one input. -/
def taxFlatWrong : ChangeSpec := { name := "taxFlat", fn := fun _ => fun
  | [d1, d2, d3] => { results := [.lit (.bool false)], args := [d1, d2, d3] }
  | _ => none }
def TaxFlatWrongFalsely : Prop := taxFlatRow.holds Tryz.pinned (OpenSpec.ofChange taxFlatWrong)

/-- 'annuitantlaw34.TaxSplit': WHATEVER THE INPUT: true; the input reads as it did. -/
def taxSplitSpec : ChangeSpec := { name := "taxSplit", fn := fun _ => fun
  | [d1, d2, d3] => { results := [.lit (.bool true)], args := [d1, d2, d3] }
  | _ => none }
def taxSplitRow : OpenClaim := { program := "ytedajccdbdlaoaagreat", sum := "2aace1df99866a5fcc7612294e8b4b77ec47d1b280158b268f9fe7aaa881ce2a", func := "annuitant/annuitantlaw34.TaxSplit", spec := "taxSplit", unfollowed := true, recurses := true, named := ["math/bits.overflowError"], apart := false }
def TaxSplitSaid : Prop := taxSplitRow.holds Tryz.pinned (OpenSpec.ofChange taxSplitSpec)

/-- ITS FALSE NEIGHBOUR: 'it returns false'. Refute it at one input. -/
def taxSplitWrong : ChangeSpec := { name := "taxSplit", fn := fun _ => fun
  | [d1, d2, d3] => { results := [.lit (.bool false)], args := [d1, d2, d3] }
  | _ => none }
def TaxSplitWrongFalsely : Prop := taxSplitRow.holds Tryz.pinned (OpenSpec.ofChange taxSplitWrong)

/-- 'annuitantlaw34.TaxYears': WHATEVER THE INPUT: true; the input reads as it did. -/
def taxYearsSpec : ChangeSpec := { name := "taxYears", fn := fun _ => fun
  | [d1, d2] => { results := [.lit (.bool true)], args := [d1, d2] }
  | _ => none }
def taxYearsRow : OpenClaim := { program := "ytedajccdbdlaoaagreat", sum := "2aace1df99866a5fcc7612294e8b4b77ec47d1b280158b268f9fe7aaa881ce2a", func := "annuitant/annuitantlaw34.TaxYears", spec := "taxYears", unfollowed := true, recurses := true, named := ["math/bits.overflowError"], apart := false }
def TaxYearsSaid : Prop := taxYearsRow.holds Tryz.pinned (OpenSpec.ofChange taxYearsSpec)

/-- ITS FALSE NEIGHBOUR: 'it returns false'. Refute it at one input. -/
def taxYearsWrong : ChangeSpec := { name := "taxYears", fn := fun _ => fun
  | [d1, d2] => { results := [.lit (.bool false)], args := [d1, d2] }
  | _ => none }
def TaxYearsWrongFalsely : Prop := taxYearsRow.holds Tryz.pinned (OpenSpec.ofChange taxYearsWrong)

/-- 'annuitantlaw34.TaxWrong': WHATEVER THE INPUT: true; the input reads as it did. -/
def taxWrongSpec : ChangeSpec := { name := "taxWrong", fn := fun _ => fun
  | [d1, d2, d3] => { results := [.lit (.bool true)], args := [d1, d2, d3] }
  | _ => none }
def taxWrongRow : OpenClaim := { program := "ytedajccdbdlaoaagreat", sum := "2aace1df99866a5fcc7612294e8b4b77ec47d1b280158b268f9fe7aaa881ce2a", func := "annuitant/annuitantlaw34.TaxWrong", spec := "taxWrong", unfollowed := true, recurses := true, named := ["math/bits.overflowError"], apart := false }
def TaxWrongSaid : Prop := taxWrongRow.holds Tryz.pinned (OpenSpec.ofChange taxWrongSpec)

/-- ITS FALSE NEIGHBOUR: 'it returns false'. Refute it at one input. -/
def taxWrongWrong : ChangeSpec := { name := "taxWrong", fn := fun _ => fun
  | [d1, d2, d3] => { results := [.lit (.bool false)], args := [d1, d2, d3] }
  | _ => none }
def TaxWrongWrongFalsely : Prop := taxWrongRow.holds Tryz.pinned (OpenSpec.ofChange taxWrongWrong)

/- THE SECOND FORM. 'bulk': how many values and letters a reading holds, each counted each time it is reached (what is shared counts as often as it is met; a slice's spare places count too). A statement '..UptoSaid' is the law's where the arguments, and the package variables that the reading takes, are together of bulk at most 1048576: NARROWER than '..Said'. Prove '..Said' where nothing that the law and all that it calls make is longer than what came in: it says more and counts as full. Else prove '..UptoSaid'. A law counts once. -/
mutual
def uptoBulk {H : Type} : DataW H → Nat
  | .lit (.string bytes) => bytes.length + 1
  | .lit _ => 1
  | .nil => 1
  | .ptr d => uptoBulk d + 1
  | .slice elems spare => uptoBulkAll elems + uptoBulkAll spare + 1
  | .agg parts => uptoBulkAll parts + 1
  | .iface _ d => uptoBulk d + 1
  | .map entries => uptoBulkEntries entries + 1
  | .held _ => 1
def uptoBulkAll {H : Type} : List (DataW H) → Nat
  | [] => 0
  | d :: r => uptoBulk d + uptoBulkAll r
def uptoBulkEntries {H : Type} : List (Lit × DataW H) → Nat
  | [] => 0
  | x :: r => uptoBulkEntry x + uptoBulkEntries r
def uptoBulkEntry {H : Type} : Lit × DataW H → Nat
  | (.string bytes, d) => bytes.length + uptoBulk d + 1
  | (_, d) => uptoBulk d + 1
 end
def uptoSmall : (H : Type) → List (DataW H) → Bool := fun _ ds => decide (uptoBulkAll ds ≤ 1048576)
def OpenSpec.upto (s : _root_.Go.ChangeSpec) : _root_.Go.OpenSpec := { _root_.Go.OpenSpec.ofChange s with cond := some uptoSmall }

/-- 'annuitantlaw34.TaxTells', WHERE WHAT IT READS IS OF BULK AT MOST 1048576: true; the input reads as it did. -/
def taxTellsUptoRow : OpenClaim := { program := "ytedajccdbdlaoaagreat", sum := "2aace1df99866a5fcc7612294e8b4b77ec47d1b280158b268f9fe7aaa881ce2a", func := "annuitant/annuitantlaw34.TaxTells", spec := "taxTells", unfollowed := true, recurses := true, named := ["math/bits.overflowError"], apart := false, narrowed := true }
def TaxTellsUptoSaid : Prop := taxTellsUptoRow.holds Tryz.pinned (OpenSpec.upto taxTellsSpec)

/-- 'annuitantlaw34.TaxWithholds', WHERE WHAT IT READS IS OF BULK AT MOST 1048576: true; the input reads as it did. -/
def taxWithholdsUptoRow : OpenClaim := { program := "ytedajccdbdlaoaagreat", sum := "2aace1df99866a5fcc7612294e8b4b77ec47d1b280158b268f9fe7aaa881ce2a", func := "annuitant/annuitantlaw34.TaxWithholds", spec := "taxWithholds", unfollowed := true, recurses := true, named := ["math/bits.overflowError"], apart := false, narrowed := true }
def TaxWithholdsUptoSaid : Prop := taxWithholdsUptoRow.holds Tryz.pinned (OpenSpec.upto taxWithholdsSpec)

/-- 'annuitantlaw34.TaxSmall', WHERE WHAT IT READS IS OF BULK AT MOST 1048576: true; the input reads as it did. -/
def taxSmallUptoRow : OpenClaim := { program := "ytedajccdbdlaoaagreat", sum := "2aace1df99866a5fcc7612294e8b4b77ec47d1b280158b268f9fe7aaa881ce2a", func := "annuitant/annuitantlaw34.TaxSmall", spec := "taxSmall", unfollowed := true, recurses := true, named := ["math/bits.overflowError"], apart := false, narrowed := true }
def TaxSmallUptoSaid : Prop := taxSmallUptoRow.holds Tryz.pinned (OpenSpec.upto taxSmallSpec)

/-- 'annuitantlaw34.TaxEven', WHERE WHAT IT READS IS OF BULK AT MOST 1048576: true; the input reads as it did. -/
def taxEvenUptoRow : OpenClaim := { program := "ytedajccdbdlaoaagreat", sum := "2aace1df99866a5fcc7612294e8b4b77ec47d1b280158b268f9fe7aaa881ce2a", func := "annuitant/annuitantlaw34.TaxEven", spec := "taxEven", unfollowed := true, recurses := true, named := ["math/bits.overflowError"], apart := false, narrowed := true }
def TaxEvenUptoSaid : Prop := taxEvenUptoRow.holds Tryz.pinned (OpenSpec.upto taxEvenSpec)

/-- 'annuitantlaw34.TaxGrows', WHERE WHAT IT READS IS OF BULK AT MOST 1048576: true; the input reads as it did. -/
def taxGrowsUptoRow : OpenClaim := { program := "ytedajccdbdlaoaagreat", sum := "2aace1df99866a5fcc7612294e8b4b77ec47d1b280158b268f9fe7aaa881ce2a", func := "annuitant/annuitantlaw34.TaxGrows", spec := "taxGrows", unfollowed := true, recurses := true, named := ["math/bits.overflowError"], apart := false, narrowed := true }
def TaxGrowsUptoSaid : Prop := taxGrowsUptoRow.holds Tryz.pinned (OpenSpec.upto taxGrowsSpec)

/-- 'annuitantlaw34.TaxAnew', WHERE WHAT IT READS IS OF BULK AT MOST 1048576: true; the input reads as it did. -/
def taxAnewUptoRow : OpenClaim := { program := "ytedajccdbdlaoaagreat", sum := "2aace1df99866a5fcc7612294e8b4b77ec47d1b280158b268f9fe7aaa881ce2a", func := "annuitant/annuitantlaw34.TaxAnew", spec := "taxAnew", unfollowed := true, recurses := true, named := ["math/bits.overflowError"], apart := false, narrowed := true }
def TaxAnewUptoSaid : Prop := taxAnewUptoRow.holds Tryz.pinned (OpenSpec.upto taxAnewSpec)

/-- 'annuitantlaw34.TaxYear', WHERE WHAT IT READS IS OF BULK AT MOST 1048576: true; the input reads as it did. -/
def taxYearUptoRow : OpenClaim := { program := "ytedajccdbdlaoaagreat", sum := "2aace1df99866a5fcc7612294e8b4b77ec47d1b280158b268f9fe7aaa881ce2a", func := "annuitant/annuitantlaw34.TaxYear", spec := "taxYear", unfollowed := true, recurses := true, named := ["math/bits.overflowError"], apart := false, narrowed := true }
def TaxYearUptoSaid : Prop := taxYearUptoRow.holds Tryz.pinned (OpenSpec.upto taxYearSpec)

/-- 'annuitantlaw34.TaxFlat', WHERE WHAT IT READS IS OF BULK AT MOST 1048576: true; the input reads as it did. -/
def taxFlatUptoRow : OpenClaim := { program := "ytedajccdbdlaoaagreat", sum := "2aace1df99866a5fcc7612294e8b4b77ec47d1b280158b268f9fe7aaa881ce2a", func := "annuitant/annuitantlaw34.TaxFlat", spec := "taxFlat", unfollowed := true, recurses := true, named := ["math/bits.overflowError"], apart := false, narrowed := true }
def TaxFlatUptoSaid : Prop := taxFlatUptoRow.holds Tryz.pinned (OpenSpec.upto taxFlatSpec)

/-- 'annuitantlaw34.TaxSplit', WHERE WHAT IT READS IS OF BULK AT MOST 1048576: true; the input reads as it did. -/
def taxSplitUptoRow : OpenClaim := { program := "ytedajccdbdlaoaagreat", sum := "2aace1df99866a5fcc7612294e8b4b77ec47d1b280158b268f9fe7aaa881ce2a", func := "annuitant/annuitantlaw34.TaxSplit", spec := "taxSplit", unfollowed := true, recurses := true, named := ["math/bits.overflowError"], apart := false, narrowed := true }
def TaxSplitUptoSaid : Prop := taxSplitUptoRow.holds Tryz.pinned (OpenSpec.upto taxSplitSpec)

/-- 'annuitantlaw34.TaxYears', WHERE WHAT IT READS IS OF BULK AT MOST 1048576: true; the input reads as it did. -/
def taxYearsUptoRow : OpenClaim := { program := "ytedajccdbdlaoaagreat", sum := "2aace1df99866a5fcc7612294e8b4b77ec47d1b280158b268f9fe7aaa881ce2a", func := "annuitant/annuitantlaw34.TaxYears", spec := "taxYears", unfollowed := true, recurses := true, named := ["math/bits.overflowError"], apart := false, narrowed := true }
def TaxYearsUptoSaid : Prop := taxYearsUptoRow.holds Tryz.pinned (OpenSpec.upto taxYearsSpec)

/-- 'annuitantlaw34.TaxWrong', WHERE WHAT IT READS IS OF BULK AT MOST 1048576: true; the input reads as it did. -/
def taxWrongUptoRow : OpenClaim := { program := "ytedajccdbdlaoaagreat", sum := "2aace1df99866a5fcc7612294e8b4b77ec47d1b280158b268f9fe7aaa881ce2a", func := "annuitant/annuitantlaw34.TaxWrong", spec := "taxWrong", unfollowed := true, recurses := true, named := ["math/bits.overflowError"], apart := false, narrowed := true }
def TaxWrongUptoSaid : Prop := taxWrongUptoRow.holds Tryz.pinned (OpenSpec.upto taxWrongSpec)

end Rows
end Go.Proofs.YtedajccdbdlaoaaGreat
