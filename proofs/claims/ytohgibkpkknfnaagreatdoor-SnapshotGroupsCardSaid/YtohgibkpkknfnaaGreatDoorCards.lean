/-
  DERIVED. GIVEN WITH THE SEED: THE CARDS: each row of YtohgibkpkknfnaaGreatDoorRows.lean that lists a variable, with what it lists TIED to the program's text (the seventh form; the later family's looks); each row that meets fmt, with fmt's text TOLD by the authors' own Lean function (tested against real Go, not proved from fmt's source: count such statements apart). THE CARD IS WHAT COUNTS. Prove the row's statement (the work); the ties are given (YtohgibkpkknfnaaGreatDoorTie.lean); close each card by the builder's one call (the guide's Derived/Test/ToyasCard.lean, 'card_holds'). Laid BY PROGRAM, IN A SANDBOX (cutbox-door.mjs). By AI agents, Wed Nov 11 2026. No macro, syntax, notation, axiom, sorry.
-/
import Derived.Test.YtohgibkpkknfnaaGreatDoorRows
import GoSem.ClaimSeven
namespace Go.Proofs.YtohgibkpkknfnaaGreatDoor
namespace Rows

/-- THE TIED CARD OF 'cachetierlaw24.SnapshotReopens'. -/
def snapshotReopensCard : Claim7 := { stood := { row := snapshotReopensRow, standIns := [], harness := (true, "cbc8bdedee55f997daa3ee63bd4e46cc410df3401c416358036f549cc06bbd38"), looks := true }, kinds := [], alts := [], laidByText := true, laidKinds := [.data, .data, .sentinel, .pinned], laidTests := true, laidLooks := .later }
def SnapshotReopensCardSaid : Prop := Claim7.holds Tryz.pinned (.plain (OpenSpec.ofChange snapshotReopensSpec)) snapshotReopensCard

/-- THE TIED CARD OF 'cachetierlaw24.SnapshotCompacts'. -/
def snapshotCompactsCard : Claim7 := { stood := { row := snapshotCompactsRow, standIns := [], harness := (true, "cbc8bdedee55f997daa3ee63bd4e46cc410df3401c416358036f549cc06bbd38"), looks := true }, kinds := [], alts := [], laidByText := true, laidKinds := [.data, .data, .sentinel, .pinned], laidTests := true, laidLooks := .later }
def SnapshotCompactsCardSaid : Prop := Claim7.holds Tryz.pinned (.plain (OpenSpec.ofChange snapshotCompactsSpec)) snapshotCompactsCard

/-- THE TIED CARD OF 'cachetierlaw24.SnapshotRefuses'. -/
def snapshotRefusesCard : Claim7 := { stood := { row := snapshotRefusesRow, standIns := [], harness := (true, "cbc8bdedee55f997daa3ee63bd4e46cc410df3401c416358036f549cc06bbd38"), looks := true }, kinds := [], alts := [], laidByText := true, laidKinds := [.data, .data, .sentinel, .pinned], laidTests := true, laidLooks := .later }
def SnapshotRefusesCardSaid : Prop := Claim7.holds Tryz.pinned (.plain (OpenSpec.ofChange snapshotRefusesSpec)) snapshotRefusesCard

/-- THE TIED CARD OF 'cachetierlaw24.SnapshotGroups'. -/
def snapshotGroupsCard : Claim7 := { stood := { row := snapshotGroupsRow, standIns := [], harness := (true, "cbc8bdedee55f997daa3ee63bd4e46cc410df3401c416358036f549cc06bbd38"), looks := true }, kinds := [], alts := [], laidByText := true, laidKinds := [.data, .data, .sentinel, .pinned], laidTests := true, laidLooks := .later }
def SnapshotGroupsCardSaid : Prop := Claim7.holds Tryz.pinned (.plain (OpenSpec.ofChange snapshotGroupsSpec)) snapshotGroupsCard

/-- THE SECOND FORM's CARD OF 'cachetierlaw24.SnapshotReopens'. -/
def snapshotReopensUptoCard : Claim7 := { stood := { row := snapshotReopensUptoRow, standIns := [], harness := (true, "cbc8bdedee55f997daa3ee63bd4e46cc410df3401c416358036f549cc06bbd38"), looks := true }, kinds := [], alts := [], laidByText := true, laidKinds := [.data, .data, .sentinel, .pinned], laidTests := true, laidLooks := .later }
def SnapshotReopensUptoCardSaid : Prop := Claim7.holds Tryz.pinned (.plain (OpenSpec.upto snapshotReopensSpec)) snapshotReopensUptoCard

/-- THE SECOND FORM's CARD OF 'cachetierlaw24.SnapshotCompacts'. -/
def snapshotCompactsUptoCard : Claim7 := { stood := { row := snapshotCompactsUptoRow, standIns := [], harness := (true, "cbc8bdedee55f997daa3ee63bd4e46cc410df3401c416358036f549cc06bbd38"), looks := true }, kinds := [], alts := [], laidByText := true, laidKinds := [.data, .data, .sentinel, .pinned], laidTests := true, laidLooks := .later }
def SnapshotCompactsUptoCardSaid : Prop := Claim7.holds Tryz.pinned (.plain (OpenSpec.upto snapshotCompactsSpec)) snapshotCompactsUptoCard

/-- THE SECOND FORM's CARD OF 'cachetierlaw24.SnapshotRefuses'. -/
def snapshotRefusesUptoCard : Claim7 := { stood := { row := snapshotRefusesUptoRow, standIns := [], harness := (true, "cbc8bdedee55f997daa3ee63bd4e46cc410df3401c416358036f549cc06bbd38"), looks := true }, kinds := [], alts := [], laidByText := true, laidKinds := [.data, .data, .sentinel, .pinned], laidTests := true, laidLooks := .later }
def SnapshotRefusesUptoCardSaid : Prop := Claim7.holds Tryz.pinned (.plain (OpenSpec.upto snapshotRefusesSpec)) snapshotRefusesUptoCard

/-- THE SECOND FORM's CARD OF 'cachetierlaw24.SnapshotGroups'. -/
def snapshotGroupsUptoCard : Claim7 := { stood := { row := snapshotGroupsUptoRow, standIns := [], harness := (true, "cbc8bdedee55f997daa3ee63bd4e46cc410df3401c416358036f549cc06bbd38"), looks := true }, kinds := [], alts := [], laidByText := true, laidKinds := [.data, .data, .sentinel, .pinned], laidTests := true, laidLooks := .later }
def SnapshotGroupsUptoCardSaid : Prop := Claim7.holds Tryz.pinned (.plain (OpenSpec.upto snapshotGroupsSpec)) snapshotGroupsUptoCard
end Rows
end Go.Proofs.YtohgibkpkknfnaaGreatDoor
