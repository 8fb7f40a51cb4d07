/-
  DERIVED. GIVEN WITH THE SEED: THE CARDS: each row of YthbadolcncojbaaGreatDoorRows.lean that lists a variable, with what it lists TIED to the program's text (the seventh form; the later family's looks); each row that meets fmt, with fmt's text TOLD by the authors' own Lean function (tested against real Go, not proved from fmt's source: count such statements apart). THE CARD IS WHAT COUNTS. Prove the row's statement (the work); the ties are given (YthbadolcncojbaaGreatDoorTie.lean); close each card by the builder's one call (the guide's Derived/Test/ToyasCard.lean, 'card_holds'). Laid BY PROGRAM, IN A SANDBOX (cutbox-door.mjs). By AI agents, Wed Nov 11 2026. No macro, syntax, notation, axiom, sorry.
-/
import Derived.Test.YthbadolcncojbaaGreatDoorRows
import GoSem.ClaimSeven
namespace Go.Proofs.YthbadolcncojbaaGreatDoor
namespace Rows

/-- THE TIED CARD OF 'cachetierlaw23.JournalHeads'. -/
def journalHeadsCard : Claim7 := { stood := { row := journalHeadsRow, standIns := [], harness := (true, "33d02eac1801e9ca17f73f1f3eff55868294c602f89d72e25331f79aefc9fad0"), looks := true }, kinds := [], alts := [], laidByText := true, laidKinds := [.data, .data, .sentinel, .pinned], laidTests := true, laidLooks := .later }
def JournalHeadsCardSaid : Prop := Claim7.holds Tryz.pinned (.plain (OpenSpec.ofChange journalHeadsSpec)) journalHeadsCard

/-- THE TIED CARD OF 'cachetierlaw24.SnapshotOpensMatchReference'. -/
def snapshotOpensMatchReferenceCard : Claim7 := { stood := { row := snapshotOpensMatchReferenceRow, standIns := [], harness := (true, "33d02eac1801e9ca17f73f1f3eff55868294c602f89d72e25331f79aefc9fad0"), looks := true }, kinds := [], alts := [], laidByText := true, laidKinds := [.data, .data, .sentinel, .pinned], laidTests := true, laidLooks := .later }
def SnapshotOpensMatchReferenceCardSaid : Prop := Claim7.holds Tryz.pinned (.plain (OpenSpec.ofChange snapshotOpensMatchReferenceSpec)) snapshotOpensMatchReferenceCard

/-- THE TIED CARD OF 'cachetierlaw24.SnapshotMatchesReference'. -/
def snapshotMatchesReferenceCard : Claim7 := { stood := { row := snapshotMatchesReferenceRow, standIns := [], harness := (true, "33d02eac1801e9ca17f73f1f3eff55868294c602f89d72e25331f79aefc9fad0"), looks := true }, kinds := [], alts := [], laidByText := true, laidKinds := [.data, .data, .sentinel, .pinned], laidTests := true, laidLooks := .later }
def SnapshotMatchesReferenceCardSaid : Prop := Claim7.holds Tryz.pinned (.plain (OpenSpec.ofChange snapshotMatchesReferenceSpec)) snapshotMatchesReferenceCard

/-- THE TIED CARD OF 'cachetierlaw24.SnapshotSurvives'. -/
def snapshotSurvivesCard : Claim7 := { stood := { row := snapshotSurvivesRow, standIns := [], harness := (true, "33d02eac1801e9ca17f73f1f3eff55868294c602f89d72e25331f79aefc9fad0"), looks := true }, kinds := [], alts := [], laidByText := true, laidKinds := [.data, .data, .sentinel, .pinned], laidTests := true, laidLooks := .later }
def SnapshotSurvivesCardSaid : Prop := Claim7.holds Tryz.pinned (.plain (OpenSpec.ofChange snapshotSurvivesSpec)) snapshotSurvivesCard

/-- THE SECOND FORM's CARD OF 'cachetierlaw23.JournalHeads'. -/
def journalHeadsUptoCard : Claim7 := { stood := { row := journalHeadsUptoRow, standIns := [], harness := (true, "33d02eac1801e9ca17f73f1f3eff55868294c602f89d72e25331f79aefc9fad0"), looks := true }, kinds := [], alts := [], laidByText := true, laidKinds := [.data, .data, .sentinel, .pinned], laidTests := true, laidLooks := .later }
def JournalHeadsUptoCardSaid : Prop := Claim7.holds Tryz.pinned (.plain (OpenSpec.upto journalHeadsSpec)) journalHeadsUptoCard

/-- THE SECOND FORM's CARD OF 'cachetierlaw24.SnapshotOpensMatchReference'. -/
def snapshotOpensMatchReferenceUptoCard : Claim7 := { stood := { row := snapshotOpensMatchReferenceUptoRow, standIns := [], harness := (true, "33d02eac1801e9ca17f73f1f3eff55868294c602f89d72e25331f79aefc9fad0"), looks := true }, kinds := [], alts := [], laidByText := true, laidKinds := [.data, .data, .sentinel, .pinned], laidTests := true, laidLooks := .later }
def SnapshotOpensMatchReferenceUptoCardSaid : Prop := Claim7.holds Tryz.pinned (.plain (OpenSpec.upto snapshotOpensMatchReferenceSpec)) snapshotOpensMatchReferenceUptoCard

/-- THE SECOND FORM's CARD OF 'cachetierlaw24.SnapshotMatchesReference'. -/
def snapshotMatchesReferenceUptoCard : Claim7 := { stood := { row := snapshotMatchesReferenceUptoRow, standIns := [], harness := (true, "33d02eac1801e9ca17f73f1f3eff55868294c602f89d72e25331f79aefc9fad0"), looks := true }, kinds := [], alts := [], laidByText := true, laidKinds := [.data, .data, .sentinel, .pinned], laidTests := true, laidLooks := .later }
def SnapshotMatchesReferenceUptoCardSaid : Prop := Claim7.holds Tryz.pinned (.plain (OpenSpec.upto snapshotMatchesReferenceSpec)) snapshotMatchesReferenceUptoCard

/-- THE SECOND FORM's CARD OF 'cachetierlaw24.SnapshotSurvives'. -/
def snapshotSurvivesUptoCard : Claim7 := { stood := { row := snapshotSurvivesUptoRow, standIns := [], harness := (true, "33d02eac1801e9ca17f73f1f3eff55868294c602f89d72e25331f79aefc9fad0"), looks := true }, kinds := [], alts := [], laidByText := true, laidKinds := [.data, .data, .sentinel, .pinned], laidTests := true, laidLooks := .later }
def SnapshotSurvivesUptoCardSaid : Prop := Claim7.holds Tryz.pinned (.plain (OpenSpec.upto snapshotSurvivesSpec)) snapshotSurvivesUptoCard
end Rows
end Go.Proofs.YthbadolcncojbaaGreatDoor
