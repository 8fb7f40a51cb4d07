/-
  DERIVED. GIVEN WITH THE SEED: THE CARDS: each row of YtljkoipiekbijaaGreatDoorRows.lean that lists a variable, with what it lists TIED to the program's text (the seventh form; the later family's looks); each row that meets fmt, with fmt's text TOLD by the authors' own Lean function (tested against real Go, not proved from fmt's source: count such statements apart). THE CARD IS WHAT COUNTS. Prove the row's statement (the work); the ties are given (YtljkoipiekbijaaGreatDoorTie.lean); close each card by the builder's one call (the guide's Derived/Test/ToyasCard.lean, 'card_holds'). Laid BY PROGRAM, IN A SANDBOX (cutbox-door.mjs). By AI agents, Wed Nov 11 2026. No macro, syntax, notation, axiom, sorry.
-/
import Derived.Test.YtljkoipiekbijaaGreatDoorRows
import GoSem.ClaimSeven
namespace Go.Proofs.YtljkoipiekbijaaGreatDoor
namespace Rows

/-- THE TIED CARD OF 'cachetierlaw11.ProofMatchesReference'. -/
def proofMatchesReferenceCard : Claim7 := { stood := { row := proofMatchesReferenceRow, standIns := [], harness := (true, "5f6dd0aa5011b8fc90588cb0003daab8c205044e13f2c8d309bf24e6060a88e7"), looks := true }, kinds := [], alts := [], laidByText := true, laidKinds := [.data, .sentinel], laidTests := true, laidLooks := .later }
def ProofMatchesReferenceCardSaid : Prop := Claim7.holds Tryz.pinned (.plain (OpenSpec.ofChange proofMatchesReferenceSpec)) proofMatchesReferenceCard

/-- THE SECOND FORM's CARD OF 'cachetierlaw11.ProofMatchesReference'. -/
def proofMatchesReferenceUptoCard : Claim7 := { stood := { row := proofMatchesReferenceUptoRow, standIns := [], harness := (true, "5f6dd0aa5011b8fc90588cb0003daab8c205044e13f2c8d309bf24e6060a88e7"), looks := true }, kinds := [], alts := [], laidByText := true, laidKinds := [.data, .sentinel], laidTests := true, laidLooks := .later }
def ProofMatchesReferenceUptoCardSaid : Prop := Claim7.holds Tryz.pinned (.plain (OpenSpec.upto proofMatchesReferenceSpec)) proofMatchesReferenceUptoCard
end Rows
end Go.Proofs.YtljkoipiekbijaaGreatDoor
