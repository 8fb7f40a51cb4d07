/-
  DERIVED. GIVEN WITH THE SEED: THE CARDS: each row of YteaiajghbkenoaaGreatDoorRows.lean that lists a variable, with what it lists TIED to the program's text (the seventh form; the later family's looks); each row that meets fmt, with fmt's text TOLD by the authors' own Lean function (tested against real Go, not proved from fmt's source: count such statements apart). THE CARD IS WHAT COUNTS. Prove the row's statement (the work); the ties are given (YteaiajghbkenoaaGreatDoorTie.lean); close each card by the builder's one call (the guide's Derived/Test/ToyasCard.lean, 'card_holds'). Laid BY PROGRAM, IN A SANDBOX (cutbox-door.mjs). By AI agents, Wed Nov 11 2026. No macro, syntax, notation, axiom, sorry.
-/
import Derived.Test.YteaiajghbkenoaaGreatDoorRows
import GoSem.ClaimSeven
namespace Go.Proofs.YteaiajghbkenoaaGreatDoor
namespace Rows

/-- THE TIED CARD OF 'cachetierlaw18.CacheNoResurrection'. -/
def cacheNoResurrectionCard : Claim7 := { stood := { row := cacheNoResurrectionRow, standIns := [], harness := (true, "64b00948a421cc1a1acee21241482392ddb8d32cf49112d564b96b0845972319"), looks := true }, kinds := [], alts := [], laidByText := true, laidKinds := [.data, .data, .data, .data, .sentinel], laidTests := true, laidLooks := .later }
def CacheNoResurrectionCardSaid : Prop := Claim7.holds Tryz.pinned (.plain (OpenSpec.ofChange cacheNoResurrectionSpec)) cacheNoResurrectionCard

/-- THE TIED CARD OF 'cachetierlaw18.CacheUntouched'. -/
def cacheUntouchedCard : Claim7 := { stood := { row := cacheUntouchedRow, standIns := [], harness := (true, "64b00948a421cc1a1acee21241482392ddb8d32cf49112d564b96b0845972319"), looks := true }, kinds := [], alts := [], laidByText := true, laidKinds := [.data, .data, .data, .data, .sentinel], laidTests := true, laidLooks := .later }
def CacheUntouchedCardSaid : Prop := Claim7.holds Tryz.pinned (.plain (OpenSpec.ofChange cacheUntouchedSpec)) cacheUntouchedCard

/-- THE TIED CARD OF 'cachetierlaw18.CacheTouched'. -/
def cacheTouchedCard : Claim7 := { stood := { row := cacheTouchedRow, standIns := [], harness := (true, "64b00948a421cc1a1acee21241482392ddb8d32cf49112d564b96b0845972319"), looks := true }, kinds := [], alts := [], laidByText := true, laidKinds := [.data, .data, .data, .data, .sentinel], laidTests := true, laidLooks := .later }
def CacheTouchedCardSaid : Prop := Claim7.holds Tryz.pinned (.plain (OpenSpec.ofChange cacheTouchedSpec)) cacheTouchedCard

/-- THE TIED CARD OF 'cachetierlaw18.CacheWindow'. -/
def cacheWindowCard : Claim7 := { stood := { row := cacheWindowRow, standIns := [], harness := (true, "64b00948a421cc1a1acee21241482392ddb8d32cf49112d564b96b0845972319"), looks := true }, kinds := [], alts := [], laidByText := true, laidKinds := [.data, .data, .data, .data, .sentinel], laidTests := true, laidLooks := .later }
def CacheWindowCardSaid : Prop := Claim7.holds Tryz.pinned (.plain (OpenSpec.ofChange cacheWindowSpec)) cacheWindowCard

/-- THE TIED CARD OF 'cachetierlaw18.CacheDropped'. -/
def cacheDroppedCard : Claim7 := { stood := { row := cacheDroppedRow, standIns := [], harness := (true, "64b00948a421cc1a1acee21241482392ddb8d32cf49112d564b96b0845972319"), looks := true }, kinds := [], alts := [], laidByText := true, laidKinds := [.data, .data, .data, .data, .sentinel], laidTests := true, laidLooks := .later }
def CacheDroppedCardSaid : Prop := Claim7.holds Tryz.pinned (.plain (OpenSpec.ofChange cacheDroppedSpec)) cacheDroppedCard

/-- THE SECOND FORM's CARD OF 'cachetierlaw18.CacheNoResurrection'. -/
def cacheNoResurrectionUptoCard : Claim7 := { stood := { row := cacheNoResurrectionUptoRow, standIns := [], harness := (true, "64b00948a421cc1a1acee21241482392ddb8d32cf49112d564b96b0845972319"), looks := true }, kinds := [], alts := [], laidByText := true, laidKinds := [.data, .data, .data, .data, .sentinel], laidTests := true, laidLooks := .later }
def CacheNoResurrectionUptoCardSaid : Prop := Claim7.holds Tryz.pinned (.plain (OpenSpec.upto cacheNoResurrectionSpec)) cacheNoResurrectionUptoCard

/-- THE SECOND FORM's CARD OF 'cachetierlaw18.CacheUntouched'. -/
def cacheUntouchedUptoCard : Claim7 := { stood := { row := cacheUntouchedUptoRow, standIns := [], harness := (true, "64b00948a421cc1a1acee21241482392ddb8d32cf49112d564b96b0845972319"), looks := true }, kinds := [], alts := [], laidByText := true, laidKinds := [.data, .data, .data, .data, .sentinel], laidTests := true, laidLooks := .later }
def CacheUntouchedUptoCardSaid : Prop := Claim7.holds Tryz.pinned (.plain (OpenSpec.upto cacheUntouchedSpec)) cacheUntouchedUptoCard

/-- THE SECOND FORM's CARD OF 'cachetierlaw18.CacheTouched'. -/
def cacheTouchedUptoCard : Claim7 := { stood := { row := cacheTouchedUptoRow, standIns := [], harness := (true, "64b00948a421cc1a1acee21241482392ddb8d32cf49112d564b96b0845972319"), looks := true }, kinds := [], alts := [], laidByText := true, laidKinds := [.data, .data, .data, .data, .sentinel], laidTests := true, laidLooks := .later }
def CacheTouchedUptoCardSaid : Prop := Claim7.holds Tryz.pinned (.plain (OpenSpec.upto cacheTouchedSpec)) cacheTouchedUptoCard

/-- THE SECOND FORM's CARD OF 'cachetierlaw18.CacheWindow'. -/
def cacheWindowUptoCard : Claim7 := { stood := { row := cacheWindowUptoRow, standIns := [], harness := (true, "64b00948a421cc1a1acee21241482392ddb8d32cf49112d564b96b0845972319"), looks := true }, kinds := [], alts := [], laidByText := true, laidKinds := [.data, .data, .data, .data, .sentinel], laidTests := true, laidLooks := .later }
def CacheWindowUptoCardSaid : Prop := Claim7.holds Tryz.pinned (.plain (OpenSpec.upto cacheWindowSpec)) cacheWindowUptoCard

/-- THE SECOND FORM's CARD OF 'cachetierlaw18.CacheDropped'. -/
def cacheDroppedUptoCard : Claim7 := { stood := { row := cacheDroppedUptoRow, standIns := [], harness := (true, "64b00948a421cc1a1acee21241482392ddb8d32cf49112d564b96b0845972319"), looks := true }, kinds := [], alts := [], laidByText := true, laidKinds := [.data, .data, .data, .data, .sentinel], laidTests := true, laidLooks := .later }
def CacheDroppedUptoCardSaid : Prop := Claim7.holds Tryz.pinned (.plain (OpenSpec.upto cacheDroppedSpec)) cacheDroppedUptoCard
end Rows
end Go.Proofs.YteaiajghbkenoaaGreatDoor
