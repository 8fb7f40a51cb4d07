/-
  DERIVED. GIVEN WITH THE SEED: THE CARDS: each row of YtlkdhannldcfbabGreatDoorRows.lean that lists a variable, with what it lists TIED to the program's text (the seventh form; the later family's looks); each row that meets fmt, with fmt's text TOLD by the authors' own Lean function (tested against real Go, not proved from fmt's source: count such statements apart). THE CARD IS WHAT COUNTS. Prove the row's statement (the work); the ties are given (YtlkdhannldcfbabGreatDoorTie.lean); close each card by the builder's one call (the guide's Derived/Test/ToyasCard.lean, 'card_holds'). Laid BY PROGRAM, IN A SANDBOX (cutbox-door.mjs). By AI agents, Wed Nov 11 2026. No macro, syntax, notation, axiom, sorry.
-/
import Derived.Test.YtlkdhannldcfbabGreatDoorRows
import GoSem.ClaimSeven
namespace Go.Proofs.YtlkdhannldcfbabGreatDoor
namespace Rows

/-- THE TIED CARD OF 'cachetierlaw18.CacheProved'. -/
def cacheProvedCard : Claim7 := { stood := { row := cacheProvedRow, standIns := [], harness := (true, "85b9ec556803108598b0360a49fdd5ad14f786642f39664f4bad8df071e7d513"), looks := true }, kinds := [], alts := [], laidByText := true, laidKinds := [.data, .data, .data, .data, .sentinel], laidTests := true, laidLooks := .later }
def CacheProvedCardSaid : Prop := Claim7.holds Tryz.pinned (.plain (OpenSpec.ofChange cacheProvedSpec)) cacheProvedCard

/-- THE SECOND FORM's CARD OF 'cachetierlaw18.CacheProved'. -/
def cacheProvedUptoCard : Claim7 := { stood := { row := cacheProvedUptoRow, standIns := [], harness := (true, "85b9ec556803108598b0360a49fdd5ad14f786642f39664f4bad8df071e7d513"), looks := true }, kinds := [], alts := [], laidByText := true, laidKinds := [.data, .data, .data, .data, .sentinel], laidTests := true, laidLooks := .later }
def CacheProvedUptoCardSaid : Prop := Claim7.holds Tryz.pinned (.plain (OpenSpec.upto cacheProvedSpec)) cacheProvedUptoCard
end Rows
end Go.Proofs.YtlkdhannldcfbabGreatDoor
