/-
  DERIVED. GIVEN WITH THE SEED: THE CARDS: each row of YtfhjaegddfehhaaGreatDoorRows.lean that lists a variable, with what it lists TIED to the program's text (the seventh form; the later family's looks); each row that meets fmt, with fmt's text TOLD by the authors' own Lean function (tested against real Go, not proved from fmt's source: count such statements apart). THE CARD IS WHAT COUNTS. Prove the row's statement (the work); the ties are given (YtfhjaegddfehhaaGreatDoorTie.lean); close each card by the builder's one call (the guide's Derived/Test/ToyasCard.lean, 'card_holds'). Laid BY PROGRAM, IN A SANDBOX (cutbox-door.mjs). By AI agents, Wed Nov 11 2026. No macro, syntax, notation, axiom, sorry.
-/
import Derived.Test.YtfhjaegddfehhaaGreatDoorRows
import GoSem.ClaimSeven
namespace Go.Proofs.YtfhjaegddfehhaaGreatDoor
namespace Rows

/-- THE TIED CARD OF 'cachetierlaw18.CacheNoResurrection'. -/
def cacheNoResurrectionCard : Claim7 := { stood := { row := cacheNoResurrectionRow, standIns := [], harness := (true, "b6c4db8faeacdcfc46b8f446c4cbde2994f07ef6df04256234cc196b0b67065c"), looks := true }, kinds := [], alts := [], laidByText := true, laidKinds := [.data, .data, .data, .data, .sentinel], laidTests := true, laidLooks := .later }
def CacheNoResurrectionCardSaid : Prop := Claim7.holds Tryz.pinned (.plain (OpenSpec.ofChange cacheNoResurrectionSpec)) cacheNoResurrectionCard

/-- THE SECOND FORM's CARD OF 'cachetierlaw18.CacheNoResurrection'. -/
def cacheNoResurrectionUptoCard : Claim7 := { stood := { row := cacheNoResurrectionUptoRow, standIns := [], harness := (true, "b6c4db8faeacdcfc46b8f446c4cbde2994f07ef6df04256234cc196b0b67065c"), looks := true }, kinds := [], alts := [], laidByText := true, laidKinds := [.data, .data, .data, .data, .sentinel], laidTests := true, laidLooks := .later }
def CacheNoResurrectionUptoCardSaid : Prop := Claim7.holds Tryz.pinned (.plain (OpenSpec.upto cacheNoResurrectionSpec)) cacheNoResurrectionUptoCard
end Rows
end Go.Proofs.YtfhjaegddfehhaaGreatDoor
