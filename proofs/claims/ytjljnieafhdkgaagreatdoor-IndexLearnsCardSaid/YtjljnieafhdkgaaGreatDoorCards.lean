/-
  DERIVED. GIVEN WITH THE SEED: THE CARDS: each row of YtjljnieafhdkgaaGreatDoorRows.lean that lists a variable, with what it lists TIED to the program's text (the seventh form; the later family's looks); each row that meets fmt, with fmt's text TOLD by the authors' own Lean function (tested against real Go, not proved from fmt's source: count such statements apart). THE CARD IS WHAT COUNTS. Prove the row's statement (the work); the ties are given (YtjljnieafhdkgaaGreatDoorTie.lean); close each card by the builder's one call (the guide's Derived/Test/ToyasCard.lean, 'card_holds'). Laid BY PROGRAM, IN A SANDBOX (cutbox-door.mjs). By AI agents, Wed Nov 11 2026. No macro, syntax, notation, axiom, sorry.
-/
import Derived.Test.YtjljnieafhdkgaaGreatDoorRows
import GoSem.ClaimSeven
namespace Go.Proofs.YtjljnieafhdkgaaGreatDoor
namespace Rows

/-- THE TIED CARD OF 'annuitantlaw10.IndexYears'. -/
def indexYearsCard : Claim7 := { stood := { row := indexYearsRow, standIns := [], harness := (true, "2b0a3152653fe94acdc43f7c0fc4058bd4c7ea9a4688cb06f4cc00ba140b513e"), looks := false }, kinds := [], alts := [], laidByText := true, laidKinds := [.data], laidTests := true, laidLooks := .later }
def IndexYearsCardSaid : Prop := Claim7.holds Tryz.pinned (.plain (OpenSpec.ofChange indexYearsSpec)) indexYearsCard

/-- THE TIED CARD OF 'annuitantlaw10.IndexGrowth'. -/
def indexGrowthCard : Claim7 := { stood := { row := indexGrowthRow, standIns := [], harness := (true, "2b0a3152653fe94acdc43f7c0fc4058bd4c7ea9a4688cb06f4cc00ba140b513e"), looks := false }, kinds := [], alts := [], laidByText := true, laidKinds := [.data], laidTests := true, laidLooks := .later }
def IndexGrowthCardSaid : Prop := Claim7.holds Tryz.pinned (.plain (OpenSpec.ofChange indexGrowthSpec)) indexGrowthCard

/-- THE TIED CARD OF 'annuitantlaw10.IndexAdds'. -/
def indexAddsCard : Claim7 := { stood := { row := indexAddsRow, standIns := [], harness := (true, "2b0a3152653fe94acdc43f7c0fc4058bd4c7ea9a4688cb06f4cc00ba140b513e"), looks := false }, kinds := [], alts := [], laidByText := true, laidKinds := [.data], laidTests := true, laidLooks := .later }
def IndexAddsCardSaid : Prop := Claim7.holds Tryz.pinned (.plain (OpenSpec.ofChange indexAddsSpec)) indexAddsCard

/-- THE TIED CARD OF 'annuitantlaw10.IndexYearsOnly'. -/
def indexYearsOnlyCard : Claim7 := { stood := { row := indexYearsOnlyRow, standIns := [], harness := (true, "2b0a3152653fe94acdc43f7c0fc4058bd4c7ea9a4688cb06f4cc00ba140b513e"), looks := false }, kinds := [], alts := [], laidByText := true, laidKinds := [.data], laidTests := true, laidLooks := .later }
def IndexYearsOnlyCardSaid : Prop := Claim7.holds Tryz.pinned (.plain (OpenSpec.ofChange indexYearsOnlySpec)) indexYearsOnlyCard

/-- THE TIED CARD OF 'annuitantlaw10.IndexBack'. -/
def indexBackCard : Claim7 := { stood := { row := indexBackRow, standIns := [], harness := (true, "2b0a3152653fe94acdc43f7c0fc4058bd4c7ea9a4688cb06f4cc00ba140b513e"), looks := false }, kinds := [], alts := [], laidByText := true, laidKinds := [.data], laidTests := true, laidLooks := .later }
def IndexBackCardSaid : Prop := Claim7.holds Tryz.pinned (.plain (OpenSpec.ofChange indexBackSpec)) indexBackCard

/-- THE TIED CARD OF 'annuitantlaw10.IndexWrong'. -/
def indexWrongCard : Claim7 := { stood := { row := indexWrongRow, standIns := [], harness := (true, "2b0a3152653fe94acdc43f7c0fc4058bd4c7ea9a4688cb06f4cc00ba140b513e"), looks := false }, kinds := [], alts := [], laidByText := true, laidKinds := [.data], laidTests := true, laidLooks := .later }
def IndexWrongCardSaid : Prop := Claim7.holds Tryz.pinned (.plain (OpenSpec.ofChange indexWrongSpec)) indexWrongCard

/-- THE TIED CARD OF 'annuitantlaw10.IndexLearns'. -/
def indexLearnsCard : Claim7 := { stood := { row := indexLearnsRow, standIns := [], harness := (true, "2b0a3152653fe94acdc43f7c0fc4058bd4c7ea9a4688cb06f4cc00ba140b513e"), looks := false }, kinds := [], alts := [], laidByText := true, laidKinds := [.data], laidTests := true, laidLooks := .later }
def IndexLearnsCardSaid : Prop := Claim7.holds Tryz.pinned (.plain (OpenSpec.ofChange indexLearnsSpec)) indexLearnsCard

/-- THE SECOND FORM's CARD OF 'annuitantlaw10.IndexYears'. -/
def indexYearsUptoCard : Claim7 := { stood := { row := indexYearsUptoRow, standIns := [], harness := (true, "2b0a3152653fe94acdc43f7c0fc4058bd4c7ea9a4688cb06f4cc00ba140b513e"), looks := false }, kinds := [], alts := [], laidByText := true, laidKinds := [.data], laidTests := true, laidLooks := .later }
def IndexYearsUptoCardSaid : Prop := Claim7.holds Tryz.pinned (.plain (OpenSpec.upto indexYearsSpec)) indexYearsUptoCard

/-- THE SECOND FORM's CARD OF 'annuitantlaw10.IndexGrowth'. -/
def indexGrowthUptoCard : Claim7 := { stood := { row := indexGrowthUptoRow, standIns := [], harness := (true, "2b0a3152653fe94acdc43f7c0fc4058bd4c7ea9a4688cb06f4cc00ba140b513e"), looks := false }, kinds := [], alts := [], laidByText := true, laidKinds := [.data], laidTests := true, laidLooks := .later }
def IndexGrowthUptoCardSaid : Prop := Claim7.holds Tryz.pinned (.plain (OpenSpec.upto indexGrowthSpec)) indexGrowthUptoCard

/-- THE SECOND FORM's CARD OF 'annuitantlaw10.IndexAdds'. -/
def indexAddsUptoCard : Claim7 := { stood := { row := indexAddsUptoRow, standIns := [], harness := (true, "2b0a3152653fe94acdc43f7c0fc4058bd4c7ea9a4688cb06f4cc00ba140b513e"), looks := false }, kinds := [], alts := [], laidByText := true, laidKinds := [.data], laidTests := true, laidLooks := .later }
def IndexAddsUptoCardSaid : Prop := Claim7.holds Tryz.pinned (.plain (OpenSpec.upto indexAddsSpec)) indexAddsUptoCard

/-- THE SECOND FORM's CARD OF 'annuitantlaw10.IndexYearsOnly'. -/
def indexYearsOnlyUptoCard : Claim7 := { stood := { row := indexYearsOnlyUptoRow, standIns := [], harness := (true, "2b0a3152653fe94acdc43f7c0fc4058bd4c7ea9a4688cb06f4cc00ba140b513e"), looks := false }, kinds := [], alts := [], laidByText := true, laidKinds := [.data], laidTests := true, laidLooks := .later }
def IndexYearsOnlyUptoCardSaid : Prop := Claim7.holds Tryz.pinned (.plain (OpenSpec.upto indexYearsOnlySpec)) indexYearsOnlyUptoCard

/-- THE SECOND FORM's CARD OF 'annuitantlaw10.IndexBack'. -/
def indexBackUptoCard : Claim7 := { stood := { row := indexBackUptoRow, standIns := [], harness := (true, "2b0a3152653fe94acdc43f7c0fc4058bd4c7ea9a4688cb06f4cc00ba140b513e"), looks := false }, kinds := [], alts := [], laidByText := true, laidKinds := [.data], laidTests := true, laidLooks := .later }
def IndexBackUptoCardSaid : Prop := Claim7.holds Tryz.pinned (.plain (OpenSpec.upto indexBackSpec)) indexBackUptoCard

/-- THE SECOND FORM's CARD OF 'annuitantlaw10.IndexWrong'. -/
def indexWrongUptoCard : Claim7 := { stood := { row := indexWrongUptoRow, standIns := [], harness := (true, "2b0a3152653fe94acdc43f7c0fc4058bd4c7ea9a4688cb06f4cc00ba140b513e"), looks := false }, kinds := [], alts := [], laidByText := true, laidKinds := [.data], laidTests := true, laidLooks := .later }
def IndexWrongUptoCardSaid : Prop := Claim7.holds Tryz.pinned (.plain (OpenSpec.upto indexWrongSpec)) indexWrongUptoCard

/-- THE SECOND FORM's CARD OF 'annuitantlaw10.IndexLearns'. -/
def indexLearnsUptoCard : Claim7 := { stood := { row := indexLearnsUptoRow, standIns := [], harness := (true, "2b0a3152653fe94acdc43f7c0fc4058bd4c7ea9a4688cb06f4cc00ba140b513e"), looks := false }, kinds := [], alts := [], laidByText := true, laidKinds := [.data], laidTests := true, laidLooks := .later }
def IndexLearnsUptoCardSaid : Prop := Claim7.holds Tryz.pinned (.plain (OpenSpec.upto indexLearnsSpec)) indexLearnsUptoCard
end Rows
end Go.Proofs.YtjljnieafhdkgaaGreatDoor
