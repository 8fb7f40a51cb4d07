/-
  DERIVED. GIVEN WITH THE SEED: THE CARDS: each row of YtdahnapibeepkaaGreatDoorRows.lean that lists a variable, with what it lists TIED to the program's text (the seventh form; the later family's looks); each row that meets fmt, with fmt's text TOLD by the authors' own Lean function (tested against real Go, not proved from fmt's source: count such statements apart). THE CARD IS WHAT COUNTS. Prove the row's statement (the work); the ties are given (YtdahnapibeepkaaGreatDoorTie.lean); close each card by the builder's one call (the guide's Derived/Test/ToyasCard.lean, 'card_holds'). Laid BY PROGRAM, IN A SANDBOX (cutbox-door.mjs). By AI agents, Wed Nov 11 2026. No macro, syntax, notation, axiom, sorry.
-/
import Derived.Test.YtdahnapibeepkaaGreatDoorRows
import GoSem.ClaimSeven
namespace Go.Proofs.YtdahnapibeepkaaGreatDoor
namespace Rows

/-- THE TIED CARD OF 'cachetierlaw23.JournalOpensAnything'. -/
def journalOpensAnythingCard : Claim7 := { stood := { row := journalOpensAnythingRow, standIns := [], harness := (true, "9fff25a0a2c2c6effe8cbf30d55bfa97a3261c007d441147d1d43f9fe30572a0"), looks := true }, kinds := [], alts := [], laidByText := true, laidKinds := [.data, .data, .sentinel, .pinned], laidTests := true, laidLooks := .later }
def JournalOpensAnythingCardSaid : Prop := Claim7.holds Tryz.pinned (.plain (OpenSpec.ofChange journalOpensAnythingSpec)) journalOpensAnythingCard

/-- THE TIED CARD OF 'cachetierlaw23.JournalHeads'. -/
def journalHeadsCard : Claim7 := { stood := { row := journalHeadsRow, standIns := [], harness := (true, "9fff25a0a2c2c6effe8cbf30d55bfa97a3261c007d441147d1d43f9fe30572a0"), looks := true }, kinds := [], alts := [], laidByText := true, laidKinds := [.data, .data, .sentinel, .pinned], laidTests := true, laidLooks := .later }
def JournalHeadsCardSaid : Prop := Claim7.holds Tryz.pinned (.plain (OpenSpec.ofChange journalHeadsSpec)) journalHeadsCard

/-- THE TIED CARD OF 'cachetierlaw23.JournalMatchesReference'. -/
def journalMatchesReferenceCard : Claim7 := { stood := { row := journalMatchesReferenceRow, standIns := [], harness := (true, "9fff25a0a2c2c6effe8cbf30d55bfa97a3261c007d441147d1d43f9fe30572a0"), looks := true }, kinds := [], alts := [], laidByText := true, laidKinds := [.data, .data, .sentinel, .pinned], laidTests := true, laidLooks := .later }
def JournalMatchesReferenceCardSaid : Prop := Claim7.holds Tryz.pinned (.plain (OpenSpec.ofChange journalMatchesReferenceSpec)) journalMatchesReferenceCard

/-- THE SECOND FORM's CARD OF 'cachetierlaw23.JournalOpensAnything'. -/
def journalOpensAnythingUptoCard : Claim7 := { stood := { row := journalOpensAnythingUptoRow, standIns := [], harness := (true, "9fff25a0a2c2c6effe8cbf30d55bfa97a3261c007d441147d1d43f9fe30572a0"), looks := true }, kinds := [], alts := [], laidByText := true, laidKinds := [.data, .data, .sentinel, .pinned], laidTests := true, laidLooks := .later }
def JournalOpensAnythingUptoCardSaid : Prop := Claim7.holds Tryz.pinned (.plain (OpenSpec.upto journalOpensAnythingSpec)) journalOpensAnythingUptoCard

/-- THE SECOND FORM's CARD OF 'cachetierlaw23.JournalHeads'. -/
def journalHeadsUptoCard : Claim7 := { stood := { row := journalHeadsUptoRow, standIns := [], harness := (true, "9fff25a0a2c2c6effe8cbf30d55bfa97a3261c007d441147d1d43f9fe30572a0"), looks := true }, kinds := [], alts := [], laidByText := true, laidKinds := [.data, .data, .sentinel, .pinned], laidTests := true, laidLooks := .later }
def JournalHeadsUptoCardSaid : Prop := Claim7.holds Tryz.pinned (.plain (OpenSpec.upto journalHeadsSpec)) journalHeadsUptoCard

/-- THE SECOND FORM's CARD OF 'cachetierlaw23.JournalMatchesReference'. -/
def journalMatchesReferenceUptoCard : Claim7 := { stood := { row := journalMatchesReferenceUptoRow, standIns := [], harness := (true, "9fff25a0a2c2c6effe8cbf30d55bfa97a3261c007d441147d1d43f9fe30572a0"), looks := true }, kinds := [], alts := [], laidByText := true, laidKinds := [.data, .data, .sentinel, .pinned], laidTests := true, laidLooks := .later }
def JournalMatchesReferenceUptoCardSaid : Prop := Claim7.holds Tryz.pinned (.plain (OpenSpec.upto journalMatchesReferenceSpec)) journalMatchesReferenceUptoCard
end Rows
end Go.Proofs.YtdahnapibeepkaaGreatDoor
