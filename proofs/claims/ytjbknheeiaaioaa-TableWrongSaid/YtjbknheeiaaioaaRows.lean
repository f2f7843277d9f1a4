/-
  No cell of these rows narrows 'for every input' (looked for: loops, veiled, ifaces, maps, wideKeys, modest, calm, conditions, laid).
  DERIVED. THE GIVEN ROWS OF THIS SEAT. 5 by the template 'for every input the law returns true; each argument reads behind the call as it read before'; 0 by the template 'total and deterministic' (their statements: YtjbknheeiaaioaaTotals.lean).
  GIVEN WITH THE SEED: the statements are not yours to turn. If you find one false, say at which input.
  Laid BY PROGRAM, IN A SANDBOX (cutbox-rows.mjs): the forced cells as the released guide's own fill.sh prints them over the translation 7a0e0272829630c2… (all of the seat's roots in one cut). By AI agents, Wed Nov 11 2026. No macro, syntax, notation, axiom, sorry.
-/
import Derived.Test.YtjbknheeiaaioaaChecked
import GoSem.Claim
import GoSem.ClaimJoined
import GoSem.ClaimMapViews
import Derived.JoinedTies
import Derived.KernelRfl
namespace Go.Proofs.Ytjbknheeiaaioaa
/- THE CELL 'sum', in the pinned program and in every row, IS THE sha256 OF THE DUMP (.gsa) THAT YtjbknheeiaaioaaProg.lean LOADS. Nothing in Lean hashes anything: it is a label: what it is worth is what the hold of that sum in a sandbox is worth. -/
noncomputable def Try.pinned : Pinned := { name := "ytjbknheeiaaioaa", sum := "7a0e0272829630c219e98c87456bfefdea0d6b6fefa2c77dff9663b404b892b3", checked := Try.checked }
namespace Rows
def none {H : Type} : Left H := { results := [], args := [] }

/-- 'annuitantlaw07.TableLook': WHATEVER THE INPUT: true; the input reads as it did. -/
def tableLookSpec : ChangeSpec := { name := "tableLook", fn := fun _ => fun
  | [d1, d2, d3, d4] => { results := [.lit (.bool true)], args := [d1, d2, d3, d4] }
  | _ => none }
def tableLookRow : OpenClaim := { program := "ytjbknheeiaaioaa", sum := "7a0e0272829630c219e98c87456bfefdea0d6b6fefa2c77dff9663b404b892b3", func := "annuitant/annuitantlaw07.TableLook", spec := "tableLook", unfollowed := true, recurses := true, named := ["math/bits.overflowError"], apart := false }
def TableLookSaid : Prop := tableLookRow.holds Try.pinned (OpenSpec.ofChange tableLookSpec)

/-- ITS FALSE NEIGHBOUR: 'it returns false'. Refute it at one input. -/
def tableLookWrong : ChangeSpec := { name := "tableLook", fn := fun _ => fun
  | [d1, d2, d3, d4] => { results := [.lit (.bool false)], args := [d1, d2, d3, d4] }
  | _ => none }
def TableLookWrongFalsely : Prop := tableLookRow.holds Try.pinned (OpenSpec.ofChange tableLookWrong)

/-- 'annuitantlaw07.TableView': WHATEVER THE INPUT: true; the input reads as it did. -/
def tableViewSpec : ChangeSpec := { name := "tableView", fn := fun _ => fun
  | [d1, d2, d3, d4, d5] => { results := [.lit (.bool true)], args := [d1, d2, d3, d4, d5] }
  | _ => none }
def tableViewRow : OpenClaim := { program := "ytjbknheeiaaioaa", sum := "7a0e0272829630c219e98c87456bfefdea0d6b6fefa2c77dff9663b404b892b3", func := "annuitant/annuitantlaw07.TableView", spec := "tableView", unfollowed := true, recurses := true, named := ["math/bits.overflowError"], apart := false }
def TableViewSaid : Prop := tableViewRow.holds Try.pinned (OpenSpec.ofChange tableViewSpec)

/-- ITS FALSE NEIGHBOUR: 'it returns false'. Refute it at one input. -/
def tableViewWrong : ChangeSpec := { name := "tableView", fn := fun _ => fun
  | [d1, d2, d3, d4, d5] => { results := [.lit (.bool false)], args := [d1, d2, d3, d4, d5] }
  | _ => none }
def TableViewWrongFalsely : Prop := tableViewRow.holds Try.pinned (OpenSpec.ofChange tableViewWrong)

/-- 'annuitantlaw07.TableKnown': WHATEVER THE INPUT: true; the input reads as it did. -/
def tableKnownSpec : ChangeSpec := { name := "tableKnown", fn := fun _ => fun
  | [d1, d2, d3, d4] => { results := [.lit (.bool true)], args := [d1, d2, d3, d4] }
  | _ => none }
def tableKnownRow : OpenClaim := { program := "ytjbknheeiaaioaa", sum := "7a0e0272829630c219e98c87456bfefdea0d6b6fefa2c77dff9663b404b892b3", func := "annuitant/annuitantlaw07.TableKnown", spec := "tableKnown", inPlace := ["slices.overlaps[annuitant/api.Row]"], unfollowed := true, recurses := true, named := ["math/bits.overflowError"], apart := false }
def TableKnownSaid : Prop := tableKnownRow.holds Try.pinned (OpenSpec.ofChange tableKnownSpec)

/-- ITS FALSE NEIGHBOUR: 'it returns false'. Refute it at one input. -/
def tableKnownWrong : ChangeSpec := { name := "tableKnown", fn := fun _ => fun
  | [d1, d2, d3, d4] => { results := [.lit (.bool false)], args := [d1, d2, d3, d4] }
  | _ => none }
def TableKnownWrongFalsely : Prop := tableKnownRow.holds Try.pinned (OpenSpec.ofChange tableKnownWrong)

/-- 'annuitantlaw07.TableOrder': WHATEVER THE INPUT: true; the input reads as it did. -/
def tableOrderSpec : ChangeSpec := { name := "tableOrder", fn := fun _ => fun
  | [d1, d2] => { results := [.lit (.bool true)], args := [d1, d2] }
  | _ => none }
def tableOrderRow : OpenClaim := { program := "ytjbknheeiaaioaa", sum := "7a0e0272829630c219e98c87456bfefdea0d6b6fefa2c77dff9663b404b892b3", func := "annuitant/annuitantlaw07.TableOrder", spec := "tableOrder", inPlace := ["slices.overlaps[annuitant/api.Row]"], unfollowed := true, recurses := true, named := ["math/bits.overflowError"], apart := false }
def TableOrderSaid : Prop := tableOrderRow.holds Try.pinned (OpenSpec.ofChange tableOrderSpec)

/-- ITS FALSE NEIGHBOUR: 'it returns false'. Refute it at one input. -/
def tableOrderWrong : ChangeSpec := { name := "tableOrder", fn := fun _ => fun
  | [d1, d2] => { results := [.lit (.bool false)], args := [d1, d2] }
  | _ => none }
def TableOrderWrongFalsely : Prop := tableOrderRow.holds Try.pinned (OpenSpec.ofChange tableOrderWrong)

/-- 'annuitantlaw07.TableWrong': WHATEVER THE INPUT: true; the input reads as it did. -/
def tableWrongSpec : ChangeSpec := { name := "tableWrong", fn := fun _ => fun
  | [d1, d2, d3] => { results := [.lit (.bool true)], args := [d1, d2, d3] }
  | _ => none }
def tableWrongRow : OpenClaim := { program := "ytjbknheeiaaioaa", sum := "7a0e0272829630c219e98c87456bfefdea0d6b6fefa2c77dff9663b404b892b3", func := "annuitant/annuitantlaw07.TableWrong", spec := "tableWrong", inPlace := ["slices.overlaps[annuitant/api.Row]"], unfollowed := true, recurses := true, named := ["math/bits.overflowError"], apart := false }
def TableWrongSaid : Prop := tableWrongRow.holds Try.pinned (OpenSpec.ofChange tableWrongSpec)

/-- ITS FALSE NEIGHBOUR: 'it returns false'. Refute it at one input. -/
def tableWrongWrong : ChangeSpec := { name := "tableWrong", fn := fun _ => fun
  | [d1, d2, d3] => { results := [.lit (.bool false)], args := [d1, d2, d3] }
  | _ => none }
def TableWrongWrongFalsely : Prop := tableWrongRow.holds Try.pinned (OpenSpec.ofChange tableWrongWrong)

/- THE SECOND FORM. 'bulk': how many values and letters a reading holds, each counted each time it is reached (what is shared counts as often as it is met; a slice's spare places count too). A statement '..UptoSaid' is the law's where the arguments, and the package variables that the reading takes, are together of bulk at most 1048576: NARROWER than '..Said'. Prove '..Said' where nothing that the law and all that it calls make is longer than what came in: it says more and counts as full. Else prove '..UptoSaid'. A law counts once. -/
mutual
def uptoBulk {H : Type} : DataW H → Nat
  | .lit (.string bytes) => bytes.length + 1
  | .lit _ => 1
  | .nil => 1
  | .ptr d => uptoBulk d + 1
  | .slice elems spare => uptoBulkAll elems + uptoBulkAll spare + 1
  | .agg parts => uptoBulkAll parts + 1
  | .iface _ d => uptoBulk d + 1
  | .map entries => uptoBulkEntries entries + 1
  | .held _ => 1
def uptoBulkAll {H : Type} : List (DataW H) → Nat
  | [] => 0
  | d :: r => uptoBulk d + uptoBulkAll r
def uptoBulkEntries {H : Type} : List (Lit × DataW H) → Nat
  | [] => 0
  | x :: r => uptoBulkEntry x + uptoBulkEntries r
def uptoBulkEntry {H : Type} : Lit × DataW H → Nat
  | (.string bytes, d) => bytes.length + uptoBulk d + 1
  | (_, d) => uptoBulk d + 1
 end
def uptoSmall : (H : Type) → List (DataW H) → Bool := fun _ ds => decide (uptoBulkAll ds ≤ 1048576)
def OpenSpec.upto (s : _root_.Go.ChangeSpec) : _root_.Go.OpenSpec := { _root_.Go.OpenSpec.ofChange s with cond := some uptoSmall }

/-- 'annuitantlaw07.TableLook', WHERE WHAT IT READS IS OF BULK AT MOST 1048576: true; the input reads as it did. -/
def tableLookUptoRow : OpenClaim := { program := "ytjbknheeiaaioaa", sum := "7a0e0272829630c219e98c87456bfefdea0d6b6fefa2c77dff9663b404b892b3", func := "annuitant/annuitantlaw07.TableLook", spec := "tableLook", unfollowed := true, recurses := true, named := ["math/bits.overflowError"], apart := false, narrowed := true }
def TableLookUptoSaid : Prop := tableLookUptoRow.holds Try.pinned (OpenSpec.upto tableLookSpec)

/-- 'annuitantlaw07.TableView', WHERE WHAT IT READS IS OF BULK AT MOST 1048576: true; the input reads as it did. -/
def tableViewUptoRow : OpenClaim := { program := "ytjbknheeiaaioaa", sum := "7a0e0272829630c219e98c87456bfefdea0d6b6fefa2c77dff9663b404b892b3", func := "annuitant/annuitantlaw07.TableView", spec := "tableView", unfollowed := true, recurses := true, named := ["math/bits.overflowError"], apart := false, narrowed := true }
def TableViewUptoSaid : Prop := tableViewUptoRow.holds Try.pinned (OpenSpec.upto tableViewSpec)

/-- 'annuitantlaw07.TableKnown', WHERE WHAT IT READS IS OF BULK AT MOST 1048576: true; the input reads as it did. -/
def tableKnownUptoRow : OpenClaim := { program := "ytjbknheeiaaioaa", sum := "7a0e0272829630c219e98c87456bfefdea0d6b6fefa2c77dff9663b404b892b3", func := "annuitant/annuitantlaw07.TableKnown", spec := "tableKnown", inPlace := ["slices.overlaps[annuitant/api.Row]"], unfollowed := true, recurses := true, named := ["math/bits.overflowError"], apart := false, narrowed := true }
def TableKnownUptoSaid : Prop := tableKnownUptoRow.holds Try.pinned (OpenSpec.upto tableKnownSpec)

/-- 'annuitantlaw07.TableOrder', WHERE WHAT IT READS IS OF BULK AT MOST 1048576: true; the input reads as it did. -/
def tableOrderUptoRow : OpenClaim := { program := "ytjbknheeiaaioaa", sum := "7a0e0272829630c219e98c87456bfefdea0d6b6fefa2c77dff9663b404b892b3", func := "annuitant/annuitantlaw07.TableOrder", spec := "tableOrder", inPlace := ["slices.overlaps[annuitant/api.Row]"], unfollowed := true, recurses := true, named := ["math/bits.overflowError"], apart := false, narrowed := true }
def TableOrderUptoSaid : Prop := tableOrderUptoRow.holds Try.pinned (OpenSpec.upto tableOrderSpec)

/-- 'annuitantlaw07.TableWrong', WHERE WHAT IT READS IS OF BULK AT MOST 1048576: true; the input reads as it did. -/
def tableWrongUptoRow : OpenClaim := { program := "ytjbknheeiaaioaa", sum := "7a0e0272829630c219e98c87456bfefdea0d6b6fefa2c77dff9663b404b892b3", func := "annuitant/annuitantlaw07.TableWrong", spec := "tableWrong", inPlace := ["slices.overlaps[annuitant/api.Row]"], unfollowed := true, recurses := true, named := ["math/bits.overflowError"], apart := false, narrowed := true }
def TableWrongUptoSaid : Prop := tableWrongUptoRow.holds Try.pinned (OpenSpec.upto tableWrongSpec)

end Rows
end Go.Proofs.Ytjbknheeiaaioaa
