/-
  DERIVED. GIVEN WITH THE SEED: THE CARDS: each row of YtkdgffcfmgmemaaGreatDoorRows.lean that lists a variable, with what it lists TIED to the program's text (the seventh form; the later family's looks); each row that meets fmt, with fmt's text TOLD by the authors' own Lean function (tested against real Go, not proved from fmt's source: count such statements apart). THE CARD IS WHAT COUNTS. Prove the row's statement (the work); the ties are given (YtkdgffcfmgmemaaGreatDoorTie.lean); close each card by the builder's one call (the guide's Derived/Test/ToyasCard.lean, 'card_holds'). Laid BY PROGRAM, IN A SANDBOX (cutbox-door.mjs). By AI agents, Wed Nov 11 2026. No macro, syntax, notation, axiom, sorry.
-/
import Derived.Test.YtkdgffcfmgmemaaGreatDoorRows
import GoSem.ClaimSeven
namespace Go.Proofs.YtkdgffcfmgmemaaGreatDoor
namespace Rows

/-- THE TIED CARD OF 'cachetierlaw11.ProofMatchesReference'. -/
def proofMatchesReferenceCard : Claim7 := { stood := { row := proofMatchesReferenceRow, standIns := [], harness := (true, "8c1bdfdfa1c71858c1d5495408f4ba50589adf5a3dc40e16512868b9ddefbadc"), looks := true }, kinds := [], alts := [], laidByText := true, laidKinds := [.data, .sentinel], laidTests := true, laidLooks := .later }
def ProofMatchesReferenceCardSaid : Prop := Claim7.holds Tryz.pinned (.plain (OpenSpec.ofChange proofMatchesReferenceSpec)) proofMatchesReferenceCard

/-- THE TIED CARD OF 'cachetierlaw11.ProofSince'. -/
def proofSinceCard : Claim7 := { stood := { row := proofSinceRow, standIns := [], harness := (true, "8c1bdfdfa1c71858c1d5495408f4ba50589adf5a3dc40e16512868b9ddefbadc"), looks := true }, kinds := [], alts := [], laidByText := true, laidKinds := [.data, .sentinel], laidTests := true, laidLooks := .later }
def ProofSinceCardSaid : Prop := Claim7.holds Tryz.pinned (.plain (OpenSpec.ofChange proofSinceSpec)) proofSinceCard

/-- THE TIED CARD OF 'cachetierlaw11.ProofUnique'. -/
def proofUniqueCard : Claim7 := { stood := { row := proofUniqueRow, standIns := [], harness := (true, "8c1bdfdfa1c71858c1d5495408f4ba50589adf5a3dc40e16512868b9ddefbadc"), looks := true }, kinds := [], alts := [], laidByText := true, laidKinds := [.data, .sentinel], laidTests := true, laidLooks := .later }
def ProofUniqueCardSaid : Prop := Claim7.holds Tryz.pinned (.plain (OpenSpec.ofChange proofUniqueSpec)) proofUniqueCard

/-- THE TIED CARD OF 'cachetierlaw11.ProofLater'. -/
def proofLaterCard : Claim7 := { stood := { row := proofLaterRow, standIns := [], harness := (true, "8c1bdfdfa1c71858c1d5495408f4ba50589adf5a3dc40e16512868b9ddefbadc"), looks := true }, kinds := [], alts := [], laidByText := true, laidKinds := [.data, .sentinel], laidTests := true, laidLooks := .later }
def ProofLaterCardSaid : Prop := Claim7.holds Tryz.pinned (.plain (OpenSpec.ofChange proofLaterSpec)) proofLaterCard

/-- THE TIED CARD OF 'cachetierlaw11.ProofComplete'. -/
def proofCompleteCard : Claim7 := { stood := { row := proofCompleteRow, standIns := [], harness := (true, "8c1bdfdfa1c71858c1d5495408f4ba50589adf5a3dc40e16512868b9ddefbadc"), looks := true }, kinds := [], alts := [], laidByText := true, laidKinds := [.data, .sentinel], laidTests := true, laidLooks := .later }
def ProofCompleteCardSaid : Prop := Claim7.holds Tryz.pinned (.plain (OpenSpec.ofChange proofCompleteSpec)) proofCompleteCard

/-- THE TIED CARD OF 'cachetierlaw11.ProofTruth'. -/
def proofTruthCard : Claim7 := { stood := { row := proofTruthRow, standIns := [], harness := (true, "8c1bdfdfa1c71858c1d5495408f4ba50589adf5a3dc40e16512868b9ddefbadc"), looks := true }, kinds := [], alts := [], laidByText := true, laidKinds := [.data, .sentinel], laidTests := true, laidLooks := .later }
def ProofTruthCardSaid : Prop := Claim7.holds Tryz.pinned (.plain (OpenSpec.ofChange proofTruthSpec)) proofTruthCard

/-- THE TIED CARD OF 'cachetierlaw11.ProofDivided'. -/
def proofDividedCard : Claim7 := { stood := { row := proofDividedRow, standIns := [], harness := (true, "8c1bdfdfa1c71858c1d5495408f4ba50589adf5a3dc40e16512868b9ddefbadc"), looks := true }, kinds := [], alts := [], laidByText := true, laidKinds := [.data, .sentinel], laidTests := true, laidLooks := .later }
def ProofDividedCardSaid : Prop := Claim7.holds Tryz.pinned (.plain (OpenSpec.ofChange proofDividedSpec)) proofDividedCard

/-- THE TIED CARD OF 'cachetierlaw11.ProofRanges'. -/
def proofRangesCard : Claim7 := { stood := { row := proofRangesRow, standIns := [], harness := (true, "8c1bdfdfa1c71858c1d5495408f4ba50589adf5a3dc40e16512868b9ddefbadc"), looks := true }, kinds := [], alts := [], laidByText := true, laidKinds := [.data, .sentinel], laidTests := true, laidLooks := .later }
def ProofRangesCardSaid : Prop := Claim7.holds Tryz.pinned (.plain (OpenSpec.ofChange proofRangesSpec)) proofRangesCard

/-- THE SECOND FORM's CARD OF 'cachetierlaw11.ProofMatchesReference'. -/
def proofMatchesReferenceUptoCard : Claim7 := { stood := { row := proofMatchesReferenceUptoRow, standIns := [], harness := (true, "8c1bdfdfa1c71858c1d5495408f4ba50589adf5a3dc40e16512868b9ddefbadc"), looks := true }, kinds := [], alts := [], laidByText := true, laidKinds := [.data, .sentinel], laidTests := true, laidLooks := .later }
def ProofMatchesReferenceUptoCardSaid : Prop := Claim7.holds Tryz.pinned (.plain (OpenSpec.upto proofMatchesReferenceSpec)) proofMatchesReferenceUptoCard

/-- THE SECOND FORM's CARD OF 'cachetierlaw11.ProofSince'. -/
def proofSinceUptoCard : Claim7 := { stood := { row := proofSinceUptoRow, standIns := [], harness := (true, "8c1bdfdfa1c71858c1d5495408f4ba50589adf5a3dc40e16512868b9ddefbadc"), looks := true }, kinds := [], alts := [], laidByText := true, laidKinds := [.data, .sentinel], laidTests := true, laidLooks := .later }
def ProofSinceUptoCardSaid : Prop := Claim7.holds Tryz.pinned (.plain (OpenSpec.upto proofSinceSpec)) proofSinceUptoCard

/-- THE SECOND FORM's CARD OF 'cachetierlaw11.ProofUnique'. -/
def proofUniqueUptoCard : Claim7 := { stood := { row := proofUniqueUptoRow, standIns := [], harness := (true, "8c1bdfdfa1c71858c1d5495408f4ba50589adf5a3dc40e16512868b9ddefbadc"), looks := true }, kinds := [], alts := [], laidByText := true, laidKinds := [.data, .sentinel], laidTests := true, laidLooks := .later }
def ProofUniqueUptoCardSaid : Prop := Claim7.holds Tryz.pinned (.plain (OpenSpec.upto proofUniqueSpec)) proofUniqueUptoCard

/-- THE SECOND FORM's CARD OF 'cachetierlaw11.ProofLater'. -/
def proofLaterUptoCard : Claim7 := { stood := { row := proofLaterUptoRow, standIns := [], harness := (true, "8c1bdfdfa1c71858c1d5495408f4ba50589adf5a3dc40e16512868b9ddefbadc"), looks := true }, kinds := [], alts := [], laidByText := true, laidKinds := [.data, .sentinel], laidTests := true, laidLooks := .later }
def ProofLaterUptoCardSaid : Prop := Claim7.holds Tryz.pinned (.plain (OpenSpec.upto proofLaterSpec)) proofLaterUptoCard

/-- THE SECOND FORM's CARD OF 'cachetierlaw11.ProofComplete'. -/
def proofCompleteUptoCard : Claim7 := { stood := { row := proofCompleteUptoRow, standIns := [], harness := (true, "8c1bdfdfa1c71858c1d5495408f4ba50589adf5a3dc40e16512868b9ddefbadc"), looks := true }, kinds := [], alts := [], laidByText := true, laidKinds := [.data, .sentinel], laidTests := true, laidLooks := .later }
def ProofCompleteUptoCardSaid : Prop := Claim7.holds Tryz.pinned (.plain (OpenSpec.upto proofCompleteSpec)) proofCompleteUptoCard

/-- THE SECOND FORM's CARD OF 'cachetierlaw11.ProofTruth'. -/
def proofTruthUptoCard : Claim7 := { stood := { row := proofTruthUptoRow, standIns := [], harness := (true, "8c1bdfdfa1c71858c1d5495408f4ba50589adf5a3dc40e16512868b9ddefbadc"), looks := true }, kinds := [], alts := [], laidByText := true, laidKinds := [.data, .sentinel], laidTests := true, laidLooks := .later }
def ProofTruthUptoCardSaid : Prop := Claim7.holds Tryz.pinned (.plain (OpenSpec.upto proofTruthSpec)) proofTruthUptoCard

/-- THE SECOND FORM's CARD OF 'cachetierlaw11.ProofDivided'. -/
def proofDividedUptoCard : Claim7 := { stood := { row := proofDividedUptoRow, standIns := [], harness := (true, "8c1bdfdfa1c71858c1d5495408f4ba50589adf5a3dc40e16512868b9ddefbadc"), looks := true }, kinds := [], alts := [], laidByText := true, laidKinds := [.data, .sentinel], laidTests := true, laidLooks := .later }
def ProofDividedUptoCardSaid : Prop := Claim7.holds Tryz.pinned (.plain (OpenSpec.upto proofDividedSpec)) proofDividedUptoCard

/-- THE SECOND FORM's CARD OF 'cachetierlaw11.ProofRanges'. -/
def proofRangesUptoCard : Claim7 := { stood := { row := proofRangesUptoRow, standIns := [], harness := (true, "8c1bdfdfa1c71858c1d5495408f4ba50589adf5a3dc40e16512868b9ddefbadc"), looks := true }, kinds := [], alts := [], laidByText := true, laidKinds := [.data, .sentinel], laidTests := true, laidLooks := .later }
def ProofRangesUptoCardSaid : Prop := Claim7.holds Tryz.pinned (.plain (OpenSpec.upto proofRangesSpec)) proofRangesUptoCard
end Rows
end Go.Proofs.YtkdgffcfmgmemaaGreatDoor
