/-
  DERIVED. GIVEN WITH THE SEED: THE CARDS: each row of YtelliknjeemfoaaGreatDoorRows.lean that lists a variable, with what it lists TIED to the program's text (the seventh form; the later family's looks); each row that meets fmt, with fmt's text TOLD by the authors' own Lean function (tested against real Go, not proved from fmt's source: count such statements apart). THE CARD IS WHAT COUNTS. Prove the row's statement (the work); the ties are given (YtelliknjeemfoaaGreatDoorTie.lean); close each card by the builder's one call (the guide's Derived/Test/ToyasCard.lean, 'card_holds'). Laid BY PROGRAM, IN A SANDBOX (cutbox-door.mjs). By AI agents, Wed Nov 11 2026. No macro, syntax, notation, axiom, sorry.
-/
import Derived.Test.YtelliknjeemfoaaGreatDoorRows
import GoSem.ClaimSeven
namespace Go.Proofs.YtelliknjeemfoaaGreatDoor
namespace Rows

/-- THE TIED CARD OF 'cachetierlaw18.CacheOwns'. -/
def cacheOwnsCard : Claim7 := { stood := { row := cacheOwnsRow, standIns := [], harness := (true, "ddf79b03d3e2ec5e5f7e35c1c1994573f105a227192f5a8add7ae1fecb09ca2c"), looks := true }, kinds := [], alts := [], laidByText := true, laidKinds := [.data, .data, .data, .data, .sentinel], laidTests := true, laidLooks := .later }
def CacheOwnsCardSaid : Prop := Claim7.holds Tryz.pinned (.plain (OpenSpec.ofChange cacheOwnsSpec)) cacheOwnsCard

/-- THE SECOND FORM's CARD OF 'cachetierlaw18.CacheOwns'. -/
def cacheOwnsUptoCard : Claim7 := { stood := { row := cacheOwnsUptoRow, standIns := [], harness := (true, "ddf79b03d3e2ec5e5f7e35c1c1994573f105a227192f5a8add7ae1fecb09ca2c"), looks := true }, kinds := [], alts := [], laidByText := true, laidKinds := [.data, .data, .data, .data, .sentinel], laidTests := true, laidLooks := .later }
def CacheOwnsUptoCardSaid : Prop := Claim7.holds Tryz.pinned (.plain (OpenSpec.upto cacheOwnsSpec)) cacheOwnsUptoCard
end Rows
end Go.Proofs.YtelliknjeemfoaaGreatDoor
