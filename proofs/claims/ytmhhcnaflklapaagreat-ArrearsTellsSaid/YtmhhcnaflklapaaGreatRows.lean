/-
  No cell of these rows narrows 'for every input' (looked for: loops, veiled, ifaces, maps, wideKeys, modest, calm, conditions, laid).
  DERIVED. THE GIVEN ROWS OF THIS SEAT. 7 by the template 'for every input the law returns true; each argument reads behind the call as it read before'; 0 by the template 'total and deterministic' (their statements: YtmhhcnaflklapaaGreatTotals.lean).
  GIVEN WITH THE SEED: the statements are not yours to turn. If you find one false, say at which input.
  Laid BY PROGRAM, IN A SANDBOX (cutbox-rows.mjs): the forced cells as the released guide's own fill.sh prints them over the translation 99f300fc163c4eb6… (all of the seat's roots in one cut). By AI agents, Wed Nov 11 2026. No macro, syntax, notation, axiom, sorry.
-/
import Derived.Test.YtmhhcnaflklapaaGreatChecked
import GoSem.Claim
import GoSem.ClaimJoined
import GoSem.ClaimMapViews
import Derived.JoinedTies
import Derived.KernelRfl
namespace Go.Proofs.YtmhhcnaflklapaaGreat
/- THE CELL 'sum', in the pinned program and in every row, IS THE sha256 OF THE DUMP (.gsa) THAT YtmhhcnaflklapaaGreatProg.lean LOADS. Nothing in Lean hashes anything: it is a label: what it is worth is what the hold of that sum in a sandbox is worth. -/
noncomputable def Tryz.pinned : Pinned := { name := "ytmhhcnaflklapaagreat", sum := "99f300fc163c4eb6b641703298b36ef54c23356ff5575a36cd4e0937e286d385", checked := Tryz.checked }
namespace Rows
def none {H : Type} : Left H := { results := [], args := [] }

/-- 'annuitantlaw28.ArrearsGrows': WHATEVER THE INPUT: true; the input reads as it did. -/
def arrearsGrowsSpec : ChangeSpec := { name := "arrearsGrows", fn := fun _ => fun
  | [d1, d2, d3, d4, d5, d6] => { results := [.lit (.bool true)], args := [d1, d2, d3, d4, d5, d6] }
  | _ => none }
def arrearsGrowsRow : OpenClaim := { program := "ytmhhcnaflklapaagreat", sum := "99f300fc163c4eb6b641703298b36ef54c23356ff5575a36cd4e0937e286d385", func := "annuitant/annuitantlaw28.ArrearsGrows", spec := "arrearsGrows", unfollowed := true, recurses := true, named := ["math/bits.overflowError"], apart := false }
def ArrearsGrowsSaid : Prop := arrearsGrowsRow.holds Tryz.pinned (OpenSpec.ofChange arrearsGrowsSpec)

/-- ITS FALSE NEIGHBOUR: 'it returns false'. Refute it at one input. -/
def arrearsGrowsWrong : ChangeSpec := { name := "arrearsGrows", fn := fun _ => fun
  | [d1, d2, d3, d4, d5, d6] => { results := [.lit (.bool false)], args := [d1, d2, d3, d4, d5, d6] }
  | _ => none }
def ArrearsGrowsWrongFalsely : Prop := arrearsGrowsRow.holds Tryz.pinned (OpenSpec.ofChange arrearsGrowsWrong)

/-- 'annuitantlaw28.ArrearsExact': WHATEVER THE INPUT: true; the input reads as it did. -/
def arrearsExactSpec : ChangeSpec := { name := "arrearsExact", fn := fun _ => fun
  | [d1, d2, d3] => { results := [.lit (.bool true)], args := [d1, d2, d3] }
  | _ => none }
def arrearsExactRow : OpenClaim := { program := "ytmhhcnaflklapaagreat", sum := "99f300fc163c4eb6b641703298b36ef54c23356ff5575a36cd4e0937e286d385", func := "annuitant/annuitantlaw28.ArrearsExact", spec := "arrearsExact", unfollowed := true, recurses := true, named := ["math/bits.overflowError"], apart := false }
def ArrearsExactSaid : Prop := arrearsExactRow.holds Tryz.pinned (OpenSpec.ofChange arrearsExactSpec)

/-- ITS FALSE NEIGHBOUR: 'it returns false'. Refute it at one input. -/
def arrearsExactWrong : ChangeSpec := { name := "arrearsExact", fn := fun _ => fun
  | [d1, d2, d3] => { results := [.lit (.bool false)], args := [d1, d2, d3] }
  | _ => none }
def ArrearsExactWrongFalsely : Prop := arrearsExactRow.holds Tryz.pinned (OpenSpec.ofChange arrearsExactWrong)

/-- 'annuitantlaw28.ArrearsKnown': WHATEVER THE INPUT: true; the input reads as it did. -/
def arrearsKnownSpec : ChangeSpec := { name := "arrearsKnown", fn := fun _ => fun
  | [d1, d2, d3, d4, d5] => { results := [.lit (.bool true)], args := [d1, d2, d3, d4, d5] }
  | _ => none }
def arrearsKnownRow : OpenClaim := { program := "ytmhhcnaflklapaagreat", sum := "99f300fc163c4eb6b641703298b36ef54c23356ff5575a36cd4e0937e286d385", func := "annuitant/annuitantlaw28.ArrearsKnown", spec := "arrearsKnown", unfollowed := true, recurses := true, named := ["math/bits.overflowError"], apart := false }
def ArrearsKnownSaid : Prop := arrearsKnownRow.holds Tryz.pinned (OpenSpec.ofChange arrearsKnownSpec)

/-- ITS FALSE NEIGHBOUR: 'it returns false'. Refute it at one input. -/
def arrearsKnownWrong : ChangeSpec := { name := "arrearsKnown", fn := fun _ => fun
  | [d1, d2, d3, d4, d5] => { results := [.lit (.bool false)], args := [d1, d2, d3, d4, d5] }
  | _ => none }
def ArrearsKnownWrongFalsely : Prop := arrearsKnownRow.holds Tryz.pinned (OpenSpec.ofChange arrearsKnownWrong)

/-- 'annuitantlaw28.ArrearsSplits': WHATEVER THE INPUT: true; the input reads as it did. -/
def arrearsSplitsSpec : ChangeSpec := { name := "arrearsSplits", fn := fun _ => fun
  | [d1, d2, d3, d4, d5, d6] => { results := [.lit (.bool true)], args := [d1, d2, d3, d4, d5, d6] }
  | _ => none }
def arrearsSplitsRow : OpenClaim := { program := "ytmhhcnaflklapaagreat", sum := "99f300fc163c4eb6b641703298b36ef54c23356ff5575a36cd4e0937e286d385", func := "annuitant/annuitantlaw28.ArrearsSplits", spec := "arrearsSplits", unfollowed := true, recurses := true, named := ["math/bits.overflowError"], apart := false }
def ArrearsSplitsSaid : Prop := arrearsSplitsRow.holds Tryz.pinned (OpenSpec.ofChange arrearsSplitsSpec)

/-- ITS FALSE NEIGHBOUR: 'it returns false'. Refute it at one input. -/
def arrearsSplitsWrong : ChangeSpec := { name := "arrearsSplits", fn := fun _ => fun
  | [d1, d2, d3, d4, d5, d6] => { results := [.lit (.bool false)], args := [d1, d2, d3, d4, d5, d6] }
  | _ => none }
def ArrearsSplitsWrongFalsely : Prop := arrearsSplitsRow.holds Tryz.pinned (OpenSpec.ofChange arrearsSplitsWrong)

/-- 'annuitantlaw28.ArrearsWrong': WHATEVER THE INPUT: true; the input reads as it did. -/
def arrearsWrongSpec : ChangeSpec := { name := "arrearsWrong", fn := fun _ => fun
  | [d1, d2] => { results := [.lit (.bool true)], args := [d1, d2] }
  | _ => none }
def arrearsWrongRow : OpenClaim := { program := "ytmhhcnaflklapaagreat", sum := "99f300fc163c4eb6b641703298b36ef54c23356ff5575a36cd4e0937e286d385", func := "annuitant/annuitantlaw28.ArrearsWrong", spec := "arrearsWrong", unfollowed := true, recurses := true, named := ["math/bits.overflowError"], apart := false }
def ArrearsWrongSaid : Prop := arrearsWrongRow.holds Tryz.pinned (OpenSpec.ofChange arrearsWrongSpec)

/-- ITS FALSE NEIGHBOUR: 'it returns false'. Refute it at one input. -/
def arrearsWrongWrong : ChangeSpec := { name := "arrearsWrong", fn := fun _ => fun
  | [d1, d2] => { results := [.lit (.bool false)], args := [d1, d2] }
  | _ => none }
def ArrearsWrongWrongFalsely : Prop := arrearsWrongRow.holds Tryz.pinned (OpenSpec.ofChange arrearsWrongWrong)

/-- 'annuitantlaw28.ArrearsTells': WHATEVER THE INPUT: true; the input reads as it did. -/
def arrearsTellsSpec : ChangeSpec := { name := "arrearsTells", fn := fun _ => fun
  | [d1, d2, d3, d4, d5, d6, d7] => { results := [.lit (.bool true)], args := [d1, d2, d3, d4, d5, d6, d7] }
  | _ => none }
def arrearsTellsRow : OpenClaim := { program := "ytmhhcnaflklapaagreat", sum := "99f300fc163c4eb6b641703298b36ef54c23356ff5575a36cd4e0937e286d385", func := "annuitant/annuitantlaw28.ArrearsTells", spec := "arrearsTells", unfollowed := true, recurses := true, named := ["math/bits.overflowError"], apart := false }
def ArrearsTellsSaid : Prop := arrearsTellsRow.holds Tryz.pinned (OpenSpec.ofChange arrearsTellsSpec)

/-- ITS FALSE NEIGHBOUR: 'it returns false'. Refute it at one input. -/
def arrearsTellsWrong : ChangeSpec := { name := "arrearsTells", fn := fun _ => fun
  | [d1, d2, d3, d4, d5, d6, d7] => { results := [.lit (.bool false)], args := [d1, d2, d3, d4, d5, d6, d7] }
  | _ => none }
def ArrearsTellsWrongFalsely : Prop := arrearsTellsRow.holds Tryz.pinned (OpenSpec.ofChange arrearsTellsWrong)

/-- 'annuitantlaw28.ArrearsSettles': WHATEVER THE INPUT: true; the input reads as it did. -/
def arrearsSettlesSpec : ChangeSpec := { name := "arrearsSettles", fn := fun _ => fun
  | [d1, d2, d3, d4] => { results := [.lit (.bool true)], args := [d1, d2, d3, d4] }
  | _ => none }
def arrearsSettlesRow : OpenClaim := { program := "ytmhhcnaflklapaagreat", sum := "99f300fc163c4eb6b641703298b36ef54c23356ff5575a36cd4e0937e286d385", func := "annuitant/annuitantlaw28.ArrearsSettles", spec := "arrearsSettles", unfollowed := true, recurses := true, named := ["math/bits.overflowError"], apart := false }
def ArrearsSettlesSaid : Prop := arrearsSettlesRow.holds Tryz.pinned (OpenSpec.ofChange arrearsSettlesSpec)

/-- ITS FALSE NEIGHBOUR: 'it returns false'. Refute it at one input. -/
def arrearsSettlesWrong : ChangeSpec := { name := "arrearsSettles", fn := fun _ => fun
  | [d1, d2, d3, d4] => { results := [.lit (.bool false)], args := [d1, d2, d3, d4] }
  | _ => none }
def ArrearsSettlesWrongFalsely : Prop := arrearsSettlesRow.holds Tryz.pinned (OpenSpec.ofChange arrearsSettlesWrong)

/- THE SECOND FORM. 'bulk': how many values and letters a reading holds, each counted each time it is reached (what is shared counts as often as it is met; a slice's spare places count too). A statement '..UptoSaid' is the law's where the arguments, and the package variables that the reading takes, are together of bulk at most 1048576: NARROWER than '..Said'. Prove '..Said' where nothing that the law and all that it calls make is longer than what came in: it says more and counts as full. Else prove '..UptoSaid'. A law counts once. -/
mutual
def uptoBulk {H : Type} : DataW H → Nat
  | .lit (.string bytes) => bytes.length + 1
  | .lit _ => 1
  | .nil => 1
  | .ptr d => uptoBulk d + 1
  | .slice elems spare => uptoBulkAll elems + uptoBulkAll spare + 1
  | .agg parts => uptoBulkAll parts + 1
  | .iface _ d => uptoBulk d + 1
  | .map entries => uptoBulkEntries entries + 1
  | .held _ => 1
def uptoBulkAll {H : Type} : List (DataW H) → Nat
  | [] => 0
  | d :: r => uptoBulk d + uptoBulkAll r
def uptoBulkEntries {H : Type} : List (Lit × DataW H) → Nat
  | [] => 0
  | x :: r => uptoBulkEntry x + uptoBulkEntries r
def uptoBulkEntry {H : Type} : Lit × DataW H → Nat
  | (.string bytes, d) => bytes.length + uptoBulk d + 1
  | (_, d) => uptoBulk d + 1
 end
def uptoSmall : (H : Type) → List (DataW H) → Bool := fun _ ds => decide (uptoBulkAll ds ≤ 1048576)
def OpenSpec.upto (s : _root_.Go.ChangeSpec) : _root_.Go.OpenSpec := { _root_.Go.OpenSpec.ofChange s with cond := some uptoSmall }

/-- 'annuitantlaw28.ArrearsGrows', WHERE WHAT IT READS IS OF BULK AT MOST 1048576: true; the input reads as it did. -/
def arrearsGrowsUptoRow : OpenClaim := { program := "ytmhhcnaflklapaagreat", sum := "99f300fc163c4eb6b641703298b36ef54c23356ff5575a36cd4e0937e286d385", func := "annuitant/annuitantlaw28.ArrearsGrows", spec := "arrearsGrows", unfollowed := true, recurses := true, named := ["math/bits.overflowError"], apart := false, narrowed := true }
def ArrearsGrowsUptoSaid : Prop := arrearsGrowsUptoRow.holds Tryz.pinned (OpenSpec.upto arrearsGrowsSpec)

/-- 'annuitantlaw28.ArrearsExact', WHERE WHAT IT READS IS OF BULK AT MOST 1048576: true; the input reads as it did. -/
def arrearsExactUptoRow : OpenClaim := { program := "ytmhhcnaflklapaagreat", sum := "99f300fc163c4eb6b641703298b36ef54c23356ff5575a36cd4e0937e286d385", func := "annuitant/annuitantlaw28.ArrearsExact", spec := "arrearsExact", unfollowed := true, recurses := true, named := ["math/bits.overflowError"], apart := false, narrowed := true }
def ArrearsExactUptoSaid : Prop := arrearsExactUptoRow.holds Tryz.pinned (OpenSpec.upto arrearsExactSpec)

/-- 'annuitantlaw28.ArrearsKnown', WHERE WHAT IT READS IS OF BULK AT MOST 1048576: true; the input reads as it did. -/
def arrearsKnownUptoRow : OpenClaim := { program := "ytmhhcnaflklapaagreat", sum := "99f300fc163c4eb6b641703298b36ef54c23356ff5575a36cd4e0937e286d385", func := "annuitant/annuitantlaw28.ArrearsKnown", spec := "arrearsKnown", unfollowed := true, recurses := true, named := ["math/bits.overflowError"], apart := false, narrowed := true }
def ArrearsKnownUptoSaid : Prop := arrearsKnownUptoRow.holds Tryz.pinned (OpenSpec.upto arrearsKnownSpec)

/-- 'annuitantlaw28.ArrearsSplits', WHERE WHAT IT READS IS OF BULK AT MOST 1048576: true; the input reads as it did. -/
def arrearsSplitsUptoRow : OpenClaim := { program := "ytmhhcnaflklapaagreat", sum := "99f300fc163c4eb6b641703298b36ef54c23356ff5575a36cd4e0937e286d385", func := "annuitant/annuitantlaw28.ArrearsSplits", spec := "arrearsSplits", unfollowed := true, recurses := true, named := ["math/bits.overflowError"], apart := false, narrowed := true }
def ArrearsSplitsUptoSaid : Prop := arrearsSplitsUptoRow.holds Tryz.pinned (OpenSpec.upto arrearsSplitsSpec)

/-- 'annuitantlaw28.ArrearsWrong', WHERE WHAT IT READS IS OF BULK AT MOST 1048576: true; the input reads as it did. -/
def arrearsWrongUptoRow : OpenClaim := { program := "ytmhhcnaflklapaagreat", sum := "99f300fc163c4eb6b641703298b36ef54c23356ff5575a36cd4e0937e286d385", func := "annuitant/annuitantlaw28.ArrearsWrong", spec := "arrearsWrong", unfollowed := true, recurses := true, named := ["math/bits.overflowError"], apart := false, narrowed := true }
def ArrearsWrongUptoSaid : Prop := arrearsWrongUptoRow.holds Tryz.pinned (OpenSpec.upto arrearsWrongSpec)

/-- 'annuitantlaw28.ArrearsTells', WHERE WHAT IT READS IS OF BULK AT MOST 1048576: true; the input reads as it did. -/
def arrearsTellsUptoRow : OpenClaim := { program := "ytmhhcnaflklapaagreat", sum := "99f300fc163c4eb6b641703298b36ef54c23356ff5575a36cd4e0937e286d385", func := "annuitant/annuitantlaw28.ArrearsTells", spec := "arrearsTells", unfollowed := true, recurses := true, named := ["math/bits.overflowError"], apart := false, narrowed := true }
def ArrearsTellsUptoSaid : Prop := arrearsTellsUptoRow.holds Tryz.pinned (OpenSpec.upto arrearsTellsSpec)

/-- 'annuitantlaw28.ArrearsSettles', WHERE WHAT IT READS IS OF BULK AT MOST 1048576: true; the input reads as it did. -/
def arrearsSettlesUptoRow : OpenClaim := { program := "ytmhhcnaflklapaagreat", sum := "99f300fc163c4eb6b641703298b36ef54c23356ff5575a36cd4e0937e286d385", func := "annuitant/annuitantlaw28.ArrearsSettles", spec := "arrearsSettles", unfollowed := true, recurses := true, named := ["math/bits.overflowError"], apart := false, narrowed := true }
def ArrearsSettlesUptoSaid : Prop := arrearsSettlesUptoRow.holds Tryz.pinned (OpenSpec.upto arrearsSettlesSpec)

end Rows
end Go.Proofs.YtmhhcnaflklapaaGreat
