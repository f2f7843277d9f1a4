/-
  No cell of these rows narrows 'for every input' (looked for: loops, veiled, ifaces, maps, wideKeys, modest, calm, conditions, laid).
  DERIVED. THE GIVEN ROWS OF THIS SEAT. 7 by the template 'for every input the law returns true; each argument reads behind the call as it read before'; 0 by the template 'total and deterministic' (their statements: YtljmbenpkbjmmaaGreatTotals.lean).
  GIVEN WITH THE SEED: the statements are not yours to turn. If you find one false, say at which input.
  Laid BY PROGRAM, IN A SANDBOX (cutbox-rows.mjs): the forced cells as the released guide's own fill.sh prints them over the translation f4a9892c64dc0289… (all of the seat's roots in one cut). By AI agents, Wed Nov 11 2026. No macro, syntax, notation, axiom, sorry.
-/
import Derived.Test.YtljmbenpkbjmmaaGreatChecked
import GoSem.Claim
import GoSem.ClaimJoined
import GoSem.ClaimMapViews
import Derived.JoinedTies
import Derived.KernelRfl
namespace Go.Proofs.YtljmbenpkbjmmaaGreat
/- THE CELL 'sum', in the pinned program and in every row, IS THE sha256 OF THE DUMP (.gsa) THAT YtljmbenpkbjmmaaGreatProg.lean LOADS. Nothing in Lean hashes anything: it is a label: what it is worth is what the hold of that sum in a sandbox is worth. -/
noncomputable def Tryz.pinned : Pinned := { name := "ytljmbenpkbjmmaagreat", sum := "f4a9892c64dc028959ccbebb49e3be939cd4617d235ac1db9b5c7330a255f09b", checked := Tryz.checked }
namespace Rows
def none {H : Type} : Left H := { results := [], args := [] }

/-- 'annuitantlaw29.RecoverTells': WHATEVER THE INPUT: true; the input reads as it did. -/
def recoverTellsSpec : ChangeSpec := { name := "recoverTells", fn := fun _ => fun
  | [d1, d2, d3, d4] => { results := [.lit (.bool true)], args := [d1, d2, d3, d4] }
  | _ => none }
def recoverTellsRow : OpenClaim := { program := "ytljmbenpkbjmmaagreat", sum := "f4a9892c64dc028959ccbebb49e3be939cd4617d235ac1db9b5c7330a255f09b", func := "annuitant/annuitantlaw29.RecoverTells", spec := "recoverTells", unfollowed := true, recurses := true, named := ["math/bits.overflowError"], apart := false }
def RecoverTellsSaid : Prop := recoverTellsRow.holds Tryz.pinned (OpenSpec.ofChange recoverTellsSpec)

/-- ITS FALSE NEIGHBOUR: 'it returns false'. Refute it at one input. -/
def recoverTellsWrong : ChangeSpec := { name := "recoverTells", fn := fun _ => fun
  | [d1, d2, d3, d4] => { results := [.lit (.bool false)], args := [d1, d2, d3, d4] }
  | _ => none }
def RecoverTellsWrongFalsely : Prop := recoverTellsRow.holds Tryz.pinned (OpenSpec.ofChange recoverTellsWrong)

/-- 'annuitantlaw29.RecoverShares': WHATEVER THE INPUT: true; the input reads as it did. -/
def recoverSharesSpec : ChangeSpec := { name := "recoverShares", fn := fun _ => fun
  | [d1, d2, d3, d4, d5, d6] => { results := [.lit (.bool true)], args := [d1, d2, d3, d4, d5, d6] }
  | _ => none }
def recoverSharesRow : OpenClaim := { program := "ytljmbenpkbjmmaagreat", sum := "f4a9892c64dc028959ccbebb49e3be939cd4617d235ac1db9b5c7330a255f09b", func := "annuitant/annuitantlaw29.RecoverShares", spec := "recoverShares", unfollowed := true, recurses := true, named := ["math/bits.overflowError"], apart := false }
def RecoverSharesSaid : Prop := recoverSharesRow.holds Tryz.pinned (OpenSpec.ofChange recoverSharesSpec)

/-- ITS FALSE NEIGHBOUR: 'it returns false'. Refute it at one input. -/
def recoverSharesWrong : ChangeSpec := { name := "recoverShares", fn := fun _ => fun
  | [d1, d2, d3, d4, d5, d6] => { results := [.lit (.bool false)], args := [d1, d2, d3, d4, d5, d6] }
  | _ => none }
def RecoverSharesWrongFalsely : Prop := recoverSharesRow.holds Tryz.pinned (OpenSpec.ofChange recoverSharesWrong)

/-- 'annuitantlaw29.RecoverWrong': WHATEVER THE INPUT: true; the input reads as it did. -/
def recoverWrongSpec : ChangeSpec := { name := "recoverWrong", fn := fun _ => fun
  | [d1, d2] => { results := [.lit (.bool true)], args := [d1, d2] }
  | _ => none }
def recoverWrongRow : OpenClaim := { program := "ytljmbenpkbjmmaagreat", sum := "f4a9892c64dc028959ccbebb49e3be939cd4617d235ac1db9b5c7330a255f09b", func := "annuitant/annuitantlaw29.RecoverWrong", spec := "recoverWrong", unfollowed := true, recurses := true, named := ["math/bits.overflowError"], apart := false }
def RecoverWrongSaid : Prop := recoverWrongRow.holds Tryz.pinned (OpenSpec.ofChange recoverWrongSpec)

/-- ITS FALSE NEIGHBOUR: 'it returns false'. Refute it at one input. -/
def recoverWrongWrong : ChangeSpec := { name := "recoverWrong", fn := fun _ => fun
  | [d1, d2] => { results := [.lit (.bool false)], args := [d1, d2] }
  | _ => none }
def RecoverWrongWrongFalsely : Prop := recoverWrongRow.holds Tryz.pinned (OpenSpec.ofChange recoverWrongWrong)

/-- 'annuitantlaw29.RecoverOldest': WHATEVER THE INPUT: true; the input reads as it did. -/
def recoverOldestSpec : ChangeSpec := { name := "recoverOldest", fn := fun _ => fun
  | [d1, d2, d3, d4, d5] => { results := [.lit (.bool true)], args := [d1, d2, d3, d4, d5] }
  | _ => none }
def recoverOldestRow : OpenClaim := { program := "ytljmbenpkbjmmaagreat", sum := "f4a9892c64dc028959ccbebb49e3be939cd4617d235ac1db9b5c7330a255f09b", func := "annuitant/annuitantlaw29.RecoverOldest", spec := "recoverOldest", unfollowed := true, recurses := true, named := ["math/bits.overflowError"], apart := false }
def RecoverOldestSaid : Prop := recoverOldestRow.holds Tryz.pinned (OpenSpec.ofChange recoverOldestSpec)

/-- ITS FALSE NEIGHBOUR: 'it returns false'. Refute it at one input. -/
def recoverOldestWrong : ChangeSpec := { name := "recoverOldest", fn := fun _ => fun
  | [d1, d2, d3, d4, d5] => { results := [.lit (.bool false)], args := [d1, d2, d3, d4, d5] }
  | _ => none }
def RecoverOldestWrongFalsely : Prop := recoverOldestRow.holds Tryz.pinned (OpenSpec.ofChange recoverOldestWrong)

/-- 'annuitantlaw29.RecoverRuns': WHATEVER THE INPUT: true; the input reads as it did. -/
def recoverRunsSpec : ChangeSpec := { name := "recoverRuns", fn := fun _ => fun
  | [d1, d2, d3, d4] => { results := [.lit (.bool true)], args := [d1, d2, d3, d4] }
  | _ => none }
def recoverRunsRow : OpenClaim := { program := "ytljmbenpkbjmmaagreat", sum := "f4a9892c64dc028959ccbebb49e3be939cd4617d235ac1db9b5c7330a255f09b", func := "annuitant/annuitantlaw29.RecoverRuns", spec := "recoverRuns", unfollowed := true, recurses := true, named := ["math/bits.overflowError"], apart := false }
def RecoverRunsSaid : Prop := recoverRunsRow.holds Tryz.pinned (OpenSpec.ofChange recoverRunsSpec)

/-- ITS FALSE NEIGHBOUR: 'it returns false'. Refute it at one input. -/
def recoverRunsWrong : ChangeSpec := { name := "recoverRuns", fn := fun _ => fun
  | [d1, d2, d3, d4] => { results := [.lit (.bool false)], args := [d1, d2, d3, d4] }
  | _ => none }
def RecoverRunsWrongFalsely : Prop := recoverRunsRow.holds Tryz.pinned (OpenSpec.ofChange recoverRunsWrong)

/-- 'annuitantlaw29.RecoverLater': WHATEVER THE INPUT: true; the input reads as it did. -/
def recoverLaterSpec : ChangeSpec := { name := "recoverLater", fn := fun _ => fun
  | [d1, d2, d3] => { results := [.lit (.bool true)], args := [d1, d2, d3] }
  | _ => none }
def recoverLaterRow : OpenClaim := { program := "ytljmbenpkbjmmaagreat", sum := "f4a9892c64dc028959ccbebb49e3be939cd4617d235ac1db9b5c7330a255f09b", func := "annuitant/annuitantlaw29.RecoverLater", spec := "recoverLater", unfollowed := true, recurses := true, named := ["math/bits.overflowError"], apart := false }
def RecoverLaterSaid : Prop := recoverLaterRow.holds Tryz.pinned (OpenSpec.ofChange recoverLaterSpec)

/-- ITS FALSE NEIGHBOUR: 'it returns false'. Refute it at one input. -/
def recoverLaterWrong : ChangeSpec := { name := "recoverLater", fn := fun _ => fun
  | [d1, d2, d3] => { results := [.lit (.bool false)], args := [d1, d2, d3] }
  | _ => none }
def RecoverLaterWrongFalsely : Prop := recoverLaterRow.holds Tryz.pinned (OpenSpec.ofChange recoverLaterWrong)

/-- 'annuitantlaw29.RecoverWithin': WHATEVER THE INPUT: true; the input reads as it did. -/
def recoverWithinSpec : ChangeSpec := { name := "recoverWithin", fn := fun _ => fun
  | [d1, d2, d3, d4, d5] => { results := [.lit (.bool true)], args := [d1, d2, d3, d4, d5] }
  | _ => none }
def recoverWithinRow : OpenClaim := { program := "ytljmbenpkbjmmaagreat", sum := "f4a9892c64dc028959ccbebb49e3be939cd4617d235ac1db9b5c7330a255f09b", func := "annuitant/annuitantlaw29.RecoverWithin", spec := "recoverWithin", unfollowed := true, recurses := true, named := ["math/bits.overflowError"], apart := false }
def RecoverWithinSaid : Prop := recoverWithinRow.holds Tryz.pinned (OpenSpec.ofChange recoverWithinSpec)

/-- ITS FALSE NEIGHBOUR: 'it returns false'. Refute it at one input. -/
def recoverWithinWrong : ChangeSpec := { name := "recoverWithin", fn := fun _ => fun
  | [d1, d2, d3, d4, d5] => { results := [.lit (.bool false)], args := [d1, d2, d3, d4, d5] }
  | _ => none }
def RecoverWithinWrongFalsely : Prop := recoverWithinRow.holds Tryz.pinned (OpenSpec.ofChange recoverWithinWrong)

/- THE SECOND FORM. 'bulk': how many values and letters a reading holds, each counted each time it is reached (what is shared counts as often as it is met; a slice's spare places count too). A statement '..UptoSaid' is the law's where the arguments, and the package variables that the reading takes, are together of bulk at most 1048576: NARROWER than '..Said'. Prove '..Said' where nothing that the law and all that it calls make is longer than what came in: it says more and counts as full. Else prove '..UptoSaid'. A law counts once. -/
mutual
def uptoBulk {H : Type} : DataW H → Nat
  | .lit (.string bytes) => bytes.length + 1
  | .lit _ => 1
  | .nil => 1
  | .ptr d => uptoBulk d + 1
  | .slice elems spare => uptoBulkAll elems + uptoBulkAll spare + 1
  | .agg parts => uptoBulkAll parts + 1
  | .iface _ d => uptoBulk d + 1
  | .map entries => uptoBulkEntries entries + 1
  | .held _ => 1
def uptoBulkAll {H : Type} : List (DataW H) → Nat
  | [] => 0
  | d :: r => uptoBulk d + uptoBulkAll r
def uptoBulkEntries {H : Type} : List (Lit × DataW H) → Nat
  | [] => 0
  | x :: r => uptoBulkEntry x + uptoBulkEntries r
def uptoBulkEntry {H : Type} : Lit × DataW H → Nat
  | (.string bytes, d) => bytes.length + uptoBulk d + 1
  | (_, d) => uptoBulk d + 1
 end
def uptoSmall : (H : Type) → List (DataW H) → Bool := fun _ ds => decide (uptoBulkAll ds ≤ 1048576)
def OpenSpec.upto (s : _root_.Go.ChangeSpec) : _root_.Go.OpenSpec := { _root_.Go.OpenSpec.ofChange s with cond := some uptoSmall }

/-- 'annuitantlaw29.RecoverTells', WHERE WHAT IT READS IS OF BULK AT MOST 1048576: true; the input reads as it did. -/
def recoverTellsUptoRow : OpenClaim := { program := "ytljmbenpkbjmmaagreat", sum := "f4a9892c64dc028959ccbebb49e3be939cd4617d235ac1db9b5c7330a255f09b", func := "annuitant/annuitantlaw29.RecoverTells", spec := "recoverTells", unfollowed := true, recurses := true, named := ["math/bits.overflowError"], apart := false, narrowed := true }
def RecoverTellsUptoSaid : Prop := recoverTellsUptoRow.holds Tryz.pinned (OpenSpec.upto recoverTellsSpec)

/-- 'annuitantlaw29.RecoverShares', WHERE WHAT IT READS IS OF BULK AT MOST 1048576: true; the input reads as it did. -/
def recoverSharesUptoRow : OpenClaim := { program := "ytljmbenpkbjmmaagreat", sum := "f4a9892c64dc028959ccbebb49e3be939cd4617d235ac1db9b5c7330a255f09b", func := "annuitant/annuitantlaw29.RecoverShares", spec := "recoverShares", unfollowed := true, recurses := true, named := ["math/bits.overflowError"], apart := false, narrowed := true }
def RecoverSharesUptoSaid : Prop := recoverSharesUptoRow.holds Tryz.pinned (OpenSpec.upto recoverSharesSpec)

/-- 'annuitantlaw29.RecoverWrong', WHERE WHAT IT READS IS OF BULK AT MOST 1048576: true; the input reads as it did. -/
def recoverWrongUptoRow : OpenClaim := { program := "ytljmbenpkbjmmaagreat", sum := "f4a9892c64dc028959ccbebb49e3be939cd4617d235ac1db9b5c7330a255f09b", func := "annuitant/annuitantlaw29.RecoverWrong", spec := "recoverWrong", unfollowed := true, recurses := true, named := ["math/bits.overflowError"], apart := false, narrowed := true }
def RecoverWrongUptoSaid : Prop := recoverWrongUptoRow.holds Tryz.pinned (OpenSpec.upto recoverWrongSpec)

/-- 'annuitantlaw29.RecoverOldest', WHERE WHAT IT READS IS OF BULK AT MOST 1048576: true; the input reads as it did. -/
def recoverOldestUptoRow : OpenClaim := { program := "ytljmbenpkbjmmaagreat", sum := "f4a9892c64dc028959ccbebb49e3be939cd4617d235ac1db9b5c7330a255f09b", func := "annuitant/annuitantlaw29.RecoverOldest", spec := "recoverOldest", unfollowed := true, recurses := true, named := ["math/bits.overflowError"], apart := false, narrowed := true }
def RecoverOldestUptoSaid : Prop := recoverOldestUptoRow.holds Tryz.pinned (OpenSpec.upto recoverOldestSpec)

/-- 'annuitantlaw29.RecoverRuns', WHERE WHAT IT READS IS OF BULK AT MOST 1048576: true; the input reads as it did. -/
def recoverRunsUptoRow : OpenClaim := { program := "ytljmbenpkbjmmaagreat", sum := "f4a9892c64dc028959ccbebb49e3be939cd4617d235ac1db9b5c7330a255f09b", func := "annuitant/annuitantlaw29.RecoverRuns", spec := "recoverRuns", unfollowed := true, recurses := true, named := ["math/bits.overflowError"], apart := false, narrowed := true }
def RecoverRunsUptoSaid : Prop := recoverRunsUptoRow.holds Tryz.pinned (OpenSpec.upto recoverRunsSpec)

/-- 'annuitantlaw29.RecoverLater', WHERE WHAT IT READS IS OF BULK AT MOST 1048576: true; the input reads as it did. -/
def recoverLaterUptoRow : OpenClaim := { program := "ytljmbenpkbjmmaagreat", sum := "f4a9892c64dc028959ccbebb49e3be939cd4617d235ac1db9b5c7330a255f09b", func := "annuitant/annuitantlaw29.RecoverLater", spec := "recoverLater", unfollowed := true, recurses := true, named := ["math/bits.overflowError"], apart := false, narrowed := true }
def RecoverLaterUptoSaid : Prop := recoverLaterUptoRow.holds Tryz.pinned (OpenSpec.upto recoverLaterSpec)

/-- 'annuitantlaw29.RecoverWithin', WHERE WHAT IT READS IS OF BULK AT MOST 1048576: true; the input reads as it did. -/
def recoverWithinUptoRow : OpenClaim := { program := "ytljmbenpkbjmmaagreat", sum := "f4a9892c64dc028959ccbebb49e3be939cd4617d235ac1db9b5c7330a255f09b", func := "annuitant/annuitantlaw29.RecoverWithin", spec := "recoverWithin", unfollowed := true, recurses := true, named := ["math/bits.overflowError"], apart := false, narrowed := true }
def RecoverWithinUptoSaid : Prop := recoverWithinUptoRow.holds Tryz.pinned (OpenSpec.upto recoverWithinSpec)

end Rows
end Go.Proofs.YtljmbenpkbjmmaaGreat
