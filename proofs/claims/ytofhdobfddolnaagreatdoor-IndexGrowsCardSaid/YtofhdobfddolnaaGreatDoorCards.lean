/-
  DERIVED. GIVEN WITH THE SEED: THE CARDS: each row of YtofhdobfddolnaaGreatDoorRows.lean that lists a variable, with what it lists TIED to the program's text (the seventh form; the later family's looks); each row that meets fmt, with fmt's text TOLD by the authors' own Lean function (tested against real Go, not proved from fmt's source: count such statements apart). THE CARD IS WHAT COUNTS. Prove the row's statement (the work); the ties are given (YtofhdobfddolnaaGreatDoorTie.lean); close each card by the builder's one call (the guide's Derived/Test/ToyasCard.lean, 'card_holds'). Laid BY PROGRAM, IN A SANDBOX (cutbox-door.mjs). By AI agents, Wed Nov 11 2026. No macro, syntax, notation, axiom, sorry.
-/
import Derived.Test.YtofhdobfddolnaaGreatDoorRows
import GoSem.ClaimSeven
namespace Go.Proofs.YtofhdobfddolnaaGreatDoor
namespace Rows

/-- THE TIED CARD OF 'annuitantlaw10.IndexGrows'. -/
def indexGrowsCard : Claim7 := { stood := { row := indexGrowsRow, standIns := [], harness := (true, "93201273b0812617a906ec2284521e07398668de330625740127c005124bb2e4"), looks := false }, kinds := [], alts := [], laidByText := true, laidKinds := [.data], laidTests := true, laidLooks := .later }
def IndexGrowsCardSaid : Prop := Claim7.holds Tryz.pinned (.plain (OpenSpec.ofChange indexGrowsSpec)) indexGrowsCard

/-- THE SECOND FORM's CARD OF 'annuitantlaw10.IndexGrows'. -/
def indexGrowsUptoCard : Claim7 := { stood := { row := indexGrowsUptoRow, standIns := [], harness := (true, "93201273b0812617a906ec2284521e07398668de330625740127c005124bb2e4"), looks := false }, kinds := [], alts := [], laidByText := true, laidKinds := [.data], laidTests := true, laidLooks := .later }
def IndexGrowsUptoCardSaid : Prop := Claim7.holds Tryz.pinned (.plain (OpenSpec.upto indexGrowsSpec)) indexGrowsUptoCard
end Rows
end Go.Proofs.YtofhdobfddolnaaGreatDoor
