/-
  DERIVED. GIVEN WITH THE SEED: THE CARDS: each row of YtlkdhannldcfbaaGreatDoorRows.lean that lists a variable, with what it lists TIED to the program's text (the seventh form; the later family's looks); each row that meets fmt, with fmt's text TOLD by the authors' own Lean function (tested against real Go, not proved from fmt's source: count such statements apart). THE CARD IS WHAT COUNTS. Prove the row's statement (the work); the ties are given (YtlkdhannldcfbaaGreatDoorTie.lean); close each card by the builder's one call (the guide's Derived/Test/ToyasCard.lean, 'card_holds'). Laid BY PROGRAM, IN A SANDBOX (cutbox-door.mjs). By AI agents, Wed Nov 11 2026. No macro, syntax, notation, axiom, sorry.
-/
import Derived.Test.YtlkdhannldcfbaaGreatDoorRows
import GoSem.ClaimSeven
namespace Go.Proofs.YtlkdhannldcfbaaGreatDoor
namespace Rows

/-- THE TIED CARD OF 'cachetierlaw11.ProofTruth'. -/
def proofTruthCard : Claim7 := { stood := { row := proofTruthRow, standIns := [], harness := (true, "4e026b7e478c7ddb6372069a63d251cabe1c4891f747bd620070ab2fbdc17ac5"), looks := true }, kinds := [], alts := [], laidByText := true, laidKinds := [.data, .sentinel], laidTests := true, laidLooks := .later }
def ProofTruthCardSaid : Prop := Claim7.holds Tryz.pinned (.plain (OpenSpec.ofChange proofTruthSpec)) proofTruthCard

/-- THE SECOND FORM's CARD OF 'cachetierlaw11.ProofTruth'. -/
def proofTruthUptoCard : Claim7 := { stood := { row := proofTruthUptoRow, standIns := [], harness := (true, "4e026b7e478c7ddb6372069a63d251cabe1c4891f747bd620070ab2fbdc17ac5"), looks := true }, kinds := [], alts := [], laidByText := true, laidKinds := [.data, .sentinel], laidTests := true, laidLooks := .later }
def ProofTruthUptoCardSaid : Prop := Claim7.holds Tryz.pinned (.plain (OpenSpec.upto proofTruthSpec)) proofTruthUptoCard
end Rows
end Go.Proofs.YtlkdhannldcfbaaGreatDoor
