/-
  DERIVED. GIVEN WITH THE SEED: THE CARDS: each row of YtfhjaegddfehhabGreatDoorRows.lean that lists a variable, with what it lists TIED to the program's text (the seventh form; the later family's looks); each row that meets fmt, with fmt's text TOLD by the authors' own Lean function (tested against real Go, not proved from fmt's source: count such statements apart). THE CARD IS WHAT COUNTS. Prove the row's statement (the work); the ties are given (YtfhjaegddfehhabGreatDoorTie.lean); close each card by the builder's one call (the guide's Derived/Test/ToyasCard.lean, 'card_holds'). Laid BY PROGRAM, IN A SANDBOX (cutbox-door.mjs). By AI agents, Wed Nov 11 2026. No macro, syntax, notation, axiom, sorry.
-/
import Derived.Test.YtfhjaegddfehhabGreatDoorRows
import GoSem.ClaimSeven
namespace Go.Proofs.YtfhjaegddfehhabGreatDoor
namespace Rows

/-- THE TIED CARD OF 'cachetierlaw18.CacheDropped'. -/
def cacheDroppedCard : Claim7 := { stood := { row := cacheDroppedRow, standIns := [], harness := (true, "3731cf03de8d72479f3922a055a802ca68e2aa95d19fbff19e3c7c1df34f7840"), looks := true }, kinds := [], alts := [], laidByText := true, laidKinds := [.data, .data, .data, .data, .sentinel], laidTests := true, laidLooks := .later }
def CacheDroppedCardSaid : Prop := Claim7.holds Tryz.pinned (.plain (OpenSpec.ofChange cacheDroppedSpec)) cacheDroppedCard

/-- THE SECOND FORM's CARD OF 'cachetierlaw18.CacheDropped'. -/
def cacheDroppedUptoCard : Claim7 := { stood := { row := cacheDroppedUptoRow, standIns := [], harness := (true, "3731cf03de8d72479f3922a055a802ca68e2aa95d19fbff19e3c7c1df34f7840"), looks := true }, kinds := [], alts := [], laidByText := true, laidKinds := [.data, .data, .data, .data, .sentinel], laidTests := true, laidLooks := .later }
def CacheDroppedUptoCardSaid : Prop := Claim7.holds Tryz.pinned (.plain (OpenSpec.upto cacheDroppedSpec)) cacheDroppedUptoCard
end Rows
end Go.Proofs.YtfhjaegddfehhabGreatDoor
