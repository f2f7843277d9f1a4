/-
  No cell of these rows narrows 'for every input' (looked for: loops, veiled, ifaces, maps, wideKeys, modest, calm, conditions, laid).
  DERIVED. THE GIVEN ROWS OF THIS SEAT. 8 by the template 'for every input the law returns true; each argument reads behind the call as it read before'; 0 by the template 'total and deterministic' (their statements: YtlhjljekeobplaaTotals.lean).
  GIVEN WITH THE SEED: the statements are not yours to turn. If you find one false, say at which input.
  Laid BY PROGRAM, IN A SANDBOX (cutbox-rows.mjs): the forced cells as the released guide's own fill.sh prints them over the translation 0af5e97bdd1f0a3c… (all of the seat's roots in one cut). By AI agents, Wed Nov 11 2026. No macro, syntax, notation, axiom, sorry.
-/
import Derived.Test.YtlhjljekeobplaaChecked
import GoSem.Claim
import GoSem.ClaimJoined
import GoSem.ClaimMapViews
import Derived.JoinedTies
import Derived.KernelRfl
namespace Go.Proofs.Ytlhjljekeobplaa
/- THE CELL 'sum', in the pinned program and in every row, IS THE sha256 OF THE DUMP (.gsa) THAT YtlhjljekeobplaaProg.lean LOADS. Nothing in Lean hashes anything: it is a label: what it is worth is what the hold of that sum in a sandbox is worth. -/
noncomputable def Try.pinned : Pinned := { name := "ytlhjljekeobplaa", sum := "0af5e97bdd1f0a3c11beb890ea0d6c74aa21a5e37194360ad942f3d475588628", checked := Try.checked }
namespace Rows
def none {H : Type} : Left H := { results := [], args := [] }

/-- 'annuitantlaw27.LedgerLearns': WHATEVER THE INPUT: true; the input reads as it did. -/
def ledgerLearnsSpec : ChangeSpec := { name := "ledgerLearns", fn := fun _ => fun
  | [d1, d2, d3, d4] => { results := [.lit (.bool true)], args := [d1, d2, d3, d4] }
  | _ => none }
def ledgerLearnsRow : OpenClaim := { program := "ytlhjljekeobplaa", sum := "0af5e97bdd1f0a3c11beb890ea0d6c74aa21a5e37194360ad942f3d475588628", func := "annuitant/annuitantlaw27.LedgerLearns", spec := "ledgerLearns", unfollowed := true, recurses := true, apart := false }
def LedgerLearnsSaid : Prop := ledgerLearnsRow.holds Try.pinned (OpenSpec.ofChange ledgerLearnsSpec)

/-- ITS FALSE NEIGHBOUR: 'it returns false'. Refute it at one input. -/
def ledgerLearnsWrong : ChangeSpec := { name := "ledgerLearns", fn := fun _ => fun
  | [d1, d2, d3, d4] => { results := [.lit (.bool false)], args := [d1, d2, d3, d4] }
  | _ => none }
def LedgerLearnsWrongFalsely : Prop := ledgerLearnsRow.holds Try.pinned (OpenSpec.ofChange ledgerLearnsWrong)

/-- 'annuitantlaw27.LedgerBefore': WHATEVER THE INPUT: true; the input reads as it did. -/
def ledgerBeforeSpec : ChangeSpec := { name := "ledgerBefore", fn := fun _ => fun
  | [d1, d2] => { results := [.lit (.bool true)], args := [d1, d2] }
  | _ => none }
def ledgerBeforeRow : OpenClaim := { program := "ytlhjljekeobplaa", sum := "0af5e97bdd1f0a3c11beb890ea0d6c74aa21a5e37194360ad942f3d475588628", func := "annuitant/annuitantlaw27.LedgerBefore", spec := "ledgerBefore", unfollowed := true, recurses := true, apart := false }
def LedgerBeforeSaid : Prop := ledgerBeforeRow.holds Try.pinned (OpenSpec.ofChange ledgerBeforeSpec)

/-- ITS FALSE NEIGHBOUR: 'it returns false'. Refute it at one input. -/
def ledgerBeforeWrong : ChangeSpec := { name := "ledgerBefore", fn := fun _ => fun
  | [d1, d2] => { results := [.lit (.bool false)], args := [d1, d2] }
  | _ => none }
def LedgerBeforeWrongFalsely : Prop := ledgerBeforeRow.holds Try.pinned (OpenSpec.ofChange ledgerBeforeWrong)

/-- 'annuitantlaw27.LedgerTells': WHATEVER THE INPUT: true; the input reads as it did. -/
def ledgerTellsSpec : ChangeSpec := { name := "ledgerTells", fn := fun _ => fun
  | [d1, d2, d3, d4, d5] => { results := [.lit (.bool true)], args := [d1, d2, d3, d4, d5] }
  | _ => none }
def ledgerTellsRow : OpenClaim := { program := "ytlhjljekeobplaa", sum := "0af5e97bdd1f0a3c11beb890ea0d6c74aa21a5e37194360ad942f3d475588628", func := "annuitant/annuitantlaw27.LedgerTells", spec := "ledgerTells", unfollowed := true, recurses := true, apart := false }
def LedgerTellsSaid : Prop := ledgerTellsRow.holds Try.pinned (OpenSpec.ofChange ledgerTellsSpec)

/-- ITS FALSE NEIGHBOUR: 'it returns false'. Refute it at one input. -/
def ledgerTellsWrong : ChangeSpec := { name := "ledgerTells", fn := fun _ => fun
  | [d1, d2, d3, d4, d5] => { results := [.lit (.bool false)], args := [d1, d2, d3, d4, d5] }
  | _ => none }
def LedgerTellsWrongFalsely : Prop := ledgerTellsRow.holds Try.pinned (OpenSpec.ofChange ledgerTellsWrong)

/-- 'annuitantlaw27.LedgerAddsUp': WHATEVER THE INPUT: true; the input reads as it did. -/
def ledgerAddsUpSpec : ChangeSpec := { name := "ledgerAddsUp", fn := fun _ => fun
  | [d] => { results := [.lit (.bool true)], args := [d] }
  | _ => none }
def ledgerAddsUpRow : OpenClaim := { program := "ytlhjljekeobplaa", sum := "0af5e97bdd1f0a3c11beb890ea0d6c74aa21a5e37194360ad942f3d475588628", func := "annuitant/annuitantlaw27.LedgerAddsUp", spec := "ledgerAddsUp", unfollowed := true, recurses := true, apart := false }
def LedgerAddsUpSaid : Prop := ledgerAddsUpRow.holds Try.pinned (OpenSpec.ofChange ledgerAddsUpSpec)

/-- ITS FALSE NEIGHBOUR: 'it returns false'. Refute it at one input. -/
def ledgerAddsUpWrong : ChangeSpec := { name := "ledgerAddsUp", fn := fun _ => fun
  | [d] => { results := [.lit (.bool false)], args := [d] }
  | _ => none }
def LedgerAddsUpWrongFalsely : Prop := ledgerAddsUpRow.holds Try.pinned (OpenSpec.ofChange ledgerAddsUpWrong)

/-- 'annuitantlaw27.LedgerChanges': WHATEVER THE INPUT: true; the input reads as it did. -/
def ledgerChangesSpec : ChangeSpec := { name := "ledgerChanges", fn := fun _ => fun
  | [d1, d2, d3, d4] => { results := [.lit (.bool true)], args := [d1, d2, d3, d4] }
  | _ => none }
def ledgerChangesRow : OpenClaim := { program := "ytlhjljekeobplaa", sum := "0af5e97bdd1f0a3c11beb890ea0d6c74aa21a5e37194360ad942f3d475588628", func := "annuitant/annuitantlaw27.LedgerChanges", spec := "ledgerChanges", unfollowed := true, recurses := true, apart := false }
def LedgerChangesSaid : Prop := ledgerChangesRow.holds Try.pinned (OpenSpec.ofChange ledgerChangesSpec)

/-- ITS FALSE NEIGHBOUR: 'it returns false'. Refute it at one input. -/
def ledgerChangesWrong : ChangeSpec := { name := "ledgerChanges", fn := fun _ => fun
  | [d1, d2, d3, d4] => { results := [.lit (.bool false)], args := [d1, d2, d3, d4] }
  | _ => none }
def LedgerChangesWrongFalsely : Prop := ledgerChangesRow.holds Try.pinned (OpenSpec.ofChange ledgerChangesWrong)

/-- 'annuitantlaw27.LedgerPosts': WHATEVER THE INPUT: true; the input reads as it did. -/
def ledgerPostsSpec : ChangeSpec := { name := "ledgerPosts", fn := fun _ => fun
  | [d1, d2] => { results := [.lit (.bool true)], args := [d1, d2] }
  | _ => none }
def ledgerPostsRow : OpenClaim := { program := "ytlhjljekeobplaa", sum := "0af5e97bdd1f0a3c11beb890ea0d6c74aa21a5e37194360ad942f3d475588628", func := "annuitant/annuitantlaw27.LedgerPosts", spec := "ledgerPosts", unfollowed := true, recurses := true, apart := false }
def LedgerPostsSaid : Prop := ledgerPostsRow.holds Try.pinned (OpenSpec.ofChange ledgerPostsSpec)

/-- ITS FALSE NEIGHBOUR: 'it returns false'. Refute it at one input. -/
def ledgerPostsWrong : ChangeSpec := { name := "ledgerPosts", fn := fun _ => fun
  | [d1, d2] => { results := [.lit (.bool false)], args := [d1, d2] }
  | _ => none }
def LedgerPostsWrongFalsely : Prop := ledgerPostsRow.holds Try.pinned (OpenSpec.ofChange ledgerPostsWrong)

/-- 'annuitantlaw27.LedgerDays': WHATEVER THE INPUT: true; the input reads as it did. -/
def ledgerDaysSpec : ChangeSpec := { name := "ledgerDays", fn := fun _ => fun
  | [d1, d2, d3] => { results := [.lit (.bool true)], args := [d1, d2, d3] }
  | _ => none }
def ledgerDaysRow : OpenClaim := { program := "ytlhjljekeobplaa", sum := "0af5e97bdd1f0a3c11beb890ea0d6c74aa21a5e37194360ad942f3d475588628", func := "annuitant/annuitantlaw27.LedgerDays", spec := "ledgerDays", unfollowed := true, recurses := true, apart := false }
def LedgerDaysSaid : Prop := ledgerDaysRow.holds Try.pinned (OpenSpec.ofChange ledgerDaysSpec)

/-- ITS FALSE NEIGHBOUR: 'it returns false'. Refute it at one input. -/
def ledgerDaysWrong : ChangeSpec := { name := "ledgerDays", fn := fun _ => fun
  | [d1, d2, d3] => { results := [.lit (.bool false)], args := [d1, d2, d3] }
  | _ => none }
def LedgerDaysWrongFalsely : Prop := ledgerDaysRow.holds Try.pinned (OpenSpec.ofChange ledgerDaysWrong)

/-- 'annuitantlaw27.LedgerWrong': WHATEVER THE INPUT: true; the input reads as it did. -/
def ledgerWrongSpec : ChangeSpec := { name := "ledgerWrong", fn := fun _ => fun
  | [d1, d2, d3] => { results := [.lit (.bool true)], args := [d1, d2, d3] }
  | _ => none }
def ledgerWrongRow : OpenClaim := { program := "ytlhjljekeobplaa", sum := "0af5e97bdd1f0a3c11beb890ea0d6c74aa21a5e37194360ad942f3d475588628", func := "annuitant/annuitantlaw27.LedgerWrong", spec := "ledgerWrong", unfollowed := true, recurses := true, apart := false }
def LedgerWrongSaid : Prop := ledgerWrongRow.holds Try.pinned (OpenSpec.ofChange ledgerWrongSpec)

/-- ITS FALSE NEIGHBOUR: 'it returns false'. Refute it at one input. -/
def ledgerWrongWrong : ChangeSpec := { name := "ledgerWrong", fn := fun _ => fun
  | [d1, d2, d3] => { results := [.lit (.bool false)], args := [d1, d2, d3] }
  | _ => none }
def LedgerWrongWrongFalsely : Prop := ledgerWrongRow.holds Try.pinned (OpenSpec.ofChange ledgerWrongWrong)

/- THE SECOND FORM. 'bulk': how many values and letters a reading holds, each counted each time it is reached (what is shared counts as often as it is met; a slice's spare places count too). A statement '..UptoSaid' is the law's where the arguments, and the package variables that the reading takes, are together of bulk at most 1048576: NARROWER than '..Said'. Prove '..Said' where nothing that the law and all that it calls make is longer than what came in: it says more and counts as full. Else prove '..UptoSaid'. A law counts once. -/
mutual
def uptoBulk {H : Type} : DataW H → Nat
  | .lit (.string bytes) => bytes.length + 1
  | .lit _ => 1
  | .nil => 1
  | .ptr d => uptoBulk d + 1
  | .slice elems spare => uptoBulkAll elems + uptoBulkAll spare + 1
  | .agg parts => uptoBulkAll parts + 1
  | .iface _ d => uptoBulk d + 1
  | .map entries => uptoBulkEntries entries + 1
  | .held _ => 1
def uptoBulkAll {H : Type} : List (DataW H) → Nat
  | [] => 0
  | d :: r => uptoBulk d + uptoBulkAll r
def uptoBulkEntries {H : Type} : List (Lit × DataW H) → Nat
  | [] => 0
  | x :: r => uptoBulkEntry x + uptoBulkEntries r
def uptoBulkEntry {H : Type} : Lit × DataW H → Nat
  | (.string bytes, d) => bytes.length + uptoBulk d + 1
  | (_, d) => uptoBulk d + 1
 end
def uptoSmall : (H : Type) → List (DataW H) → Bool := fun _ ds => decide (uptoBulkAll ds ≤ 1048576)
def OpenSpec.upto (s : _root_.Go.ChangeSpec) : _root_.Go.OpenSpec := { _root_.Go.OpenSpec.ofChange s with cond := some uptoSmall }

/-- 'annuitantlaw27.LedgerLearns', WHERE WHAT IT READS IS OF BULK AT MOST 1048576: true; the input reads as it did. -/
def ledgerLearnsUptoRow : OpenClaim := { program := "ytlhjljekeobplaa", sum := "0af5e97bdd1f0a3c11beb890ea0d6c74aa21a5e37194360ad942f3d475588628", func := "annuitant/annuitantlaw27.LedgerLearns", spec := "ledgerLearns", unfollowed := true, recurses := true, apart := false, narrowed := true }
def LedgerLearnsUptoSaid : Prop := ledgerLearnsUptoRow.holds Try.pinned (OpenSpec.upto ledgerLearnsSpec)

/-- 'annuitantlaw27.LedgerBefore', WHERE WHAT IT READS IS OF BULK AT MOST 1048576: true; the input reads as it did. -/
def ledgerBeforeUptoRow : OpenClaim := { program := "ytlhjljekeobplaa", sum := "0af5e97bdd1f0a3c11beb890ea0d6c74aa21a5e37194360ad942f3d475588628", func := "annuitant/annuitantlaw27.LedgerBefore", spec := "ledgerBefore", unfollowed := true, recurses := true, apart := false, narrowed := true }
def LedgerBeforeUptoSaid : Prop := ledgerBeforeUptoRow.holds Try.pinned (OpenSpec.upto ledgerBeforeSpec)

/-- 'annuitantlaw27.LedgerTells', WHERE WHAT IT READS IS OF BULK AT MOST 1048576: true; the input reads as it did. -/
def ledgerTellsUptoRow : OpenClaim := { program := "ytlhjljekeobplaa", sum := "0af5e97bdd1f0a3c11beb890ea0d6c74aa21a5e37194360ad942f3d475588628", func := "annuitant/annuitantlaw27.LedgerTells", spec := "ledgerTells", unfollowed := true, recurses := true, apart := false, narrowed := true }
def LedgerTellsUptoSaid : Prop := ledgerTellsUptoRow.holds Try.pinned (OpenSpec.upto ledgerTellsSpec)

/-- 'annuitantlaw27.LedgerAddsUp', WHERE WHAT IT READS IS OF BULK AT MOST 1048576: true; the input reads as it did. -/
def ledgerAddsUpUptoRow : OpenClaim := { program := "ytlhjljekeobplaa", sum := "0af5e97bdd1f0a3c11beb890ea0d6c74aa21a5e37194360ad942f3d475588628", func := "annuitant/annuitantlaw27.LedgerAddsUp", spec := "ledgerAddsUp", unfollowed := true, recurses := true, apart := false, narrowed := true }
def LedgerAddsUpUptoSaid : Prop := ledgerAddsUpUptoRow.holds Try.pinned (OpenSpec.upto ledgerAddsUpSpec)

/-- 'annuitantlaw27.LedgerChanges', WHERE WHAT IT READS IS OF BULK AT MOST 1048576: true; the input reads as it did. -/
def ledgerChangesUptoRow : OpenClaim := { program := "ytlhjljekeobplaa", sum := "0af5e97bdd1f0a3c11beb890ea0d6c74aa21a5e37194360ad942f3d475588628", func := "annuitant/annuitantlaw27.LedgerChanges", spec := "ledgerChanges", unfollowed := true, recurses := true, apart := false, narrowed := true }
def LedgerChangesUptoSaid : Prop := ledgerChangesUptoRow.holds Try.pinned (OpenSpec.upto ledgerChangesSpec)

/-- 'annuitantlaw27.LedgerPosts', WHERE WHAT IT READS IS OF BULK AT MOST 1048576: true; the input reads as it did. -/
def ledgerPostsUptoRow : OpenClaim := { program := "ytlhjljekeobplaa", sum := "0af5e97bdd1f0a3c11beb890ea0d6c74aa21a5e37194360ad942f3d475588628", func := "annuitant/annuitantlaw27.LedgerPosts", spec := "ledgerPosts", unfollowed := true, recurses := true, apart := false, narrowed := true }
def LedgerPostsUptoSaid : Prop := ledgerPostsUptoRow.holds Try.pinned (OpenSpec.upto ledgerPostsSpec)

/-- 'annuitantlaw27.LedgerDays', WHERE WHAT IT READS IS OF BULK AT MOST 1048576: true; the input reads as it did. -/
def ledgerDaysUptoRow : OpenClaim := { program := "ytlhjljekeobplaa", sum := "0af5e97bdd1f0a3c11beb890ea0d6c74aa21a5e37194360ad942f3d475588628", func := "annuitant/annuitantlaw27.LedgerDays", spec := "ledgerDays", unfollowed := true, recurses := true, apart := false, narrowed := true }
def LedgerDaysUptoSaid : Prop := ledgerDaysUptoRow.holds Try.pinned (OpenSpec.upto ledgerDaysSpec)

/-- 'annuitantlaw27.LedgerWrong', WHERE WHAT IT READS IS OF BULK AT MOST 1048576: true; the input reads as it did. -/
def ledgerWrongUptoRow : OpenClaim := { program := "ytlhjljekeobplaa", sum := "0af5e97bdd1f0a3c11beb890ea0d6c74aa21a5e37194360ad942f3d475588628", func := "annuitant/annuitantlaw27.LedgerWrong", spec := "ledgerWrong", unfollowed := true, recurses := true, apart := false, narrowed := true }
def LedgerWrongUptoSaid : Prop := ledgerWrongUptoRow.holds Try.pinned (OpenSpec.upto ledgerWrongSpec)

end Rows
end Go.Proofs.Ytlhjljekeobplaa
