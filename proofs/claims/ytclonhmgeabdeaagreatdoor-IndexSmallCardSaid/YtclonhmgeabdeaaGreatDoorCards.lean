/-
  DERIVED. GIVEN WITH THE SEED: THE CARDS: each row of YtclonhmgeabdeaaGreatDoorRows.lean that lists a variable, with what it lists TIED to the program's text (the seventh form; the later family's looks); each row that meets fmt, with fmt's text TOLD by the authors' own Lean function (tested against real Go, not proved from fmt's source: count such statements apart). THE CARD IS WHAT COUNTS. Prove the row's statement (the work); the ties are given (YtclonhmgeabdeaaGreatDoorTie.lean); close each card by the builder's one call (the guide's Derived/Test/ToyasCard.lean, 'card_holds'). Laid BY PROGRAM, IN A SANDBOX (cutbox-door.mjs). By AI agents, Wed Nov 11 2026. No macro, syntax, notation, axiom, sorry.
-/
import Derived.Test.YtclonhmgeabdeaaGreatDoorRows
import GoSem.ClaimSeven
namespace Go.Proofs.YtclonhmgeabdeaaGreatDoor
namespace Rows

/-- THE TIED CARD OF 'annuitantlaw10.IndexSmall'. -/
def indexSmallCard : Claim7 := { stood := { row := indexSmallRow, standIns := [], harness := (true, "0aec63c62fa738871eaf1816c1f7744924d639b5808f495d465710783b70bd43"), looks := false }, kinds := [], alts := [], laidByText := true, laidKinds := [.data], laidTests := true, laidLooks := .later }
def IndexSmallCardSaid : Prop := Claim7.holds Tryz.pinned (.plain (OpenSpec.ofChange indexSmallSpec)) indexSmallCard

/-- THE SECOND FORM's CARD OF 'annuitantlaw10.IndexSmall'. -/
def indexSmallUptoCard : Claim7 := { stood := { row := indexSmallUptoRow, standIns := [], harness := (true, "0aec63c62fa738871eaf1816c1f7744924d639b5808f495d465710783b70bd43"), looks := false }, kinds := [], alts := [], laidByText := true, laidKinds := [.data], laidTests := true, laidLooks := .later }
def IndexSmallUptoCardSaid : Prop := Claim7.holds Tryz.pinned (.plain (OpenSpec.upto indexSmallSpec)) indexSmallUptoCard
end Rows
end Go.Proofs.YtclonhmgeabdeaaGreatDoor
