/-
  DERIVED. GIVEN WITH THE SEED: THE CARDS: each row of YthhakdmlpngcmaaGreatDoorRows.lean that lists a variable, with what it lists TIED to the program's text (the seventh form; the later family's looks); each row that meets fmt, with fmt's text TOLD by the authors' own Lean function (tested against real Go, not proved from fmt's source: count such statements apart). THE CARD IS WHAT COUNTS. Prove the row's statement (the work); the ties are given (YthhakdmlpngcmaaGreatDoorTie.lean); close each card by the builder's one call (the guide's Derived/Test/ToyasCard.lean, 'card_holds'). Laid BY PROGRAM, IN A SANDBOX (cutbox-door.mjs). By AI agents, Wed Nov 11 2026. No macro, syntax, notation, axiom, sorry.
-/
import Derived.Test.YthhakdmlpngcmaaGreatDoorRows
import GoSem.ClaimSeven
namespace Go.Proofs.YthhakdmlpngcmaaGreatDoor
namespace Rows

/-- THE TIED CARD OF 'cachetierlaw18.CacheShares'. -/
def cacheSharesCard : Claim7 := { stood := { row := cacheSharesRow, standIns := [], harness := (true, "5fc0ace11284610de8a198b9a4cddb09bbf1c10e991f3a8c00ea2ef7c1e36a97"), looks := true }, kinds := [], alts := [], laidByText := true, laidKinds := [.data, .data, .data, .data, .sentinel], laidTests := true, laidLooks := .later }
def CacheSharesCardSaid : Prop := Claim7.holds Tryz.pinned (.plain (OpenSpec.ofChange cacheSharesSpec)) cacheSharesCard

/-- THE TIED CARD OF 'cachetierlaw18.CacheTruth'. -/
def cacheTruthCard : Claim7 := { stood := { row := cacheTruthRow, standIns := [], harness := (true, "5fc0ace11284610de8a198b9a4cddb09bbf1c10e991f3a8c00ea2ef7c1e36a97"), looks := true }, kinds := [], alts := [], laidByText := true, laidKinds := [.data, .data, .data, .data, .sentinel], laidTests := true, laidLooks := .later }
def CacheTruthCardSaid : Prop := Claim7.holds Tryz.pinned (.plain (OpenSpec.ofChange cacheTruthSpec)) cacheTruthCard

/-- THE SECOND FORM's CARD OF 'cachetierlaw18.CacheShares'. -/
def cacheSharesUptoCard : Claim7 := { stood := { row := cacheSharesUptoRow, standIns := [], harness := (true, "5fc0ace11284610de8a198b9a4cddb09bbf1c10e991f3a8c00ea2ef7c1e36a97"), looks := true }, kinds := [], alts := [], laidByText := true, laidKinds := [.data, .data, .data, .data, .sentinel], laidTests := true, laidLooks := .later }
def CacheSharesUptoCardSaid : Prop := Claim7.holds Tryz.pinned (.plain (OpenSpec.upto cacheSharesSpec)) cacheSharesUptoCard

/-- THE SECOND FORM's CARD OF 'cachetierlaw18.CacheTruth'. -/
def cacheTruthUptoCard : Claim7 := { stood := { row := cacheTruthUptoRow, standIns := [], harness := (true, "5fc0ace11284610de8a198b9a4cddb09bbf1c10e991f3a8c00ea2ef7c1e36a97"), looks := true }, kinds := [], alts := [], laidByText := true, laidKinds := [.data, .data, .data, .data, .sentinel], laidTests := true, laidLooks := .later }
def CacheTruthUptoCardSaid : Prop := Claim7.holds Tryz.pinned (.plain (OpenSpec.upto cacheTruthSpec)) cacheTruthUptoCard
end Rows
end Go.Proofs.YthhakdmlpngcmaaGreatDoor
