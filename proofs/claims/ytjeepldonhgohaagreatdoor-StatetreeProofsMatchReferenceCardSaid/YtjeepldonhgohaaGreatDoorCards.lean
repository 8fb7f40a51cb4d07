/-
  DERIVED. GIVEN WITH THE SEED: THE CARDS: each row of YtjeepldonhgohaaGreatDoorRows.lean that lists a variable, with what it lists TIED to the program's text (the seventh form; the later family's looks); each row that meets fmt, with fmt's text TOLD by the authors' own Lean function (tested against real Go, not proved from fmt's source: count such statements apart). THE CARD IS WHAT COUNTS. Prove the row's statement (the work); the ties are given (YtjeepldonhgohaaGreatDoorTie.lean); close each card by the builder's one call (the guide's Derived/Test/ToyasCard.lean, 'card_holds'). Laid BY PROGRAM, IN A SANDBOX (cutbox-door.mjs). By AI agents, Wed Nov 11 2026. No macro, syntax, notation, axiom, sorry.
-/
import Derived.Test.YtjeepldonhgohaaGreatDoorRows
import GoSem.ClaimSeven
namespace Go.Proofs.YtjeepldonhgohaaGreatDoor
namespace Rows

/-- THE TIED CARD OF 'cachetierlaw10.StatetreeMatchesReference'. -/
def statetreeMatchesReferenceCard : Claim7 := { stood := { row := statetreeMatchesReferenceRow, standIns := [], harness := (true, "89b0d5ed295b47839992aeac17ab312650478ae4c80b57073a269d3695661477"), looks := false }, kinds := [], alts := [], laidByText := true, laidKinds := [.data], laidTests := true, laidLooks := .later }
def StatetreeMatchesReferenceCardSaid : Prop := Claim7.holds Tryz.pinned (.plain (OpenSpec.ofChange statetreeMatchesReferenceSpec)) statetreeMatchesReferenceCard

/-- THE TIED CARD OF 'cachetierlaw10.StatetreeProofsMatchReference'. -/
def statetreeProofsMatchReferenceCard : Claim7 := { stood := { row := statetreeProofsMatchReferenceRow, standIns := [], harness := (true, "89b0d5ed295b47839992aeac17ab312650478ae4c80b57073a269d3695661477"), looks := false }, kinds := [], alts := [], laidByText := true, laidKinds := [.data], laidTests := true, laidLooks := .later }
def StatetreeProofsMatchReferenceCardSaid : Prop := Claim7.holds Tryz.pinned (.plain (OpenSpec.ofChange statetreeProofsMatchReferenceSpec)) statetreeProofsMatchReferenceCard

/-- THE TIED CARD OF 'cachetierlaw10.StatetreeBinding'. -/
def statetreeBindingCard : Claim7 := { stood := { row := statetreeBindingRow, standIns := [], harness := (true, "89b0d5ed295b47839992aeac17ab312650478ae4c80b57073a269d3695661477"), looks := false }, kinds := [], alts := [], laidByText := true, laidKinds := [.data], laidTests := true, laidLooks := .later }
def StatetreeBindingCardSaid : Prop := Claim7.holds Tryz.pinned (.plain (OpenSpec.ofChange statetreeBindingSpec)) statetreeBindingCard

/-- THE TIED CARD OF 'cachetierlaw10.StatetreeDamaged'. -/
def statetreeDamagedCard : Claim7 := { stood := { row := statetreeDamagedRow, standIns := [], harness := (true, "89b0d5ed295b47839992aeac17ab312650478ae4c80b57073a269d3695661477"), looks := false }, kinds := [], alts := [], laidByText := true, laidKinds := [.data], laidTests := true, laidLooks := .later }
def StatetreeDamagedCardSaid : Prop := Claim7.holds Tryz.pinned (.plain (OpenSpec.ofChange statetreeDamagedSpec)) statetreeDamagedCard

/-- THE SECOND FORM's CARD OF 'cachetierlaw10.StatetreeMatchesReference'. -/
def statetreeMatchesReferenceUptoCard : Claim7 := { stood := { row := statetreeMatchesReferenceUptoRow, standIns := [], harness := (true, "89b0d5ed295b47839992aeac17ab312650478ae4c80b57073a269d3695661477"), looks := false }, kinds := [], alts := [], laidByText := true, laidKinds := [.data], laidTests := true, laidLooks := .later }
def StatetreeMatchesReferenceUptoCardSaid : Prop := Claim7.holds Tryz.pinned (.plain (OpenSpec.upto statetreeMatchesReferenceSpec)) statetreeMatchesReferenceUptoCard

/-- THE SECOND FORM's CARD OF 'cachetierlaw10.StatetreeProofsMatchReference'. -/
def statetreeProofsMatchReferenceUptoCard : Claim7 := { stood := { row := statetreeProofsMatchReferenceUptoRow, standIns := [], harness := (true, "89b0d5ed295b47839992aeac17ab312650478ae4c80b57073a269d3695661477"), looks := false }, kinds := [], alts := [], laidByText := true, laidKinds := [.data], laidTests := true, laidLooks := .later }
def StatetreeProofsMatchReferenceUptoCardSaid : Prop := Claim7.holds Tryz.pinned (.plain (OpenSpec.upto statetreeProofsMatchReferenceSpec)) statetreeProofsMatchReferenceUptoCard

/-- THE SECOND FORM's CARD OF 'cachetierlaw10.StatetreeBinding'. -/
def statetreeBindingUptoCard : Claim7 := { stood := { row := statetreeBindingUptoRow, standIns := [], harness := (true, "89b0d5ed295b47839992aeac17ab312650478ae4c80b57073a269d3695661477"), looks := false }, kinds := [], alts := [], laidByText := true, laidKinds := [.data], laidTests := true, laidLooks := .later }
def StatetreeBindingUptoCardSaid : Prop := Claim7.holds Tryz.pinned (.plain (OpenSpec.upto statetreeBindingSpec)) statetreeBindingUptoCard

/-- THE SECOND FORM's CARD OF 'cachetierlaw10.StatetreeDamaged'. -/
def statetreeDamagedUptoCard : Claim7 := { stood := { row := statetreeDamagedUptoRow, standIns := [], harness := (true, "89b0d5ed295b47839992aeac17ab312650478ae4c80b57073a269d3695661477"), looks := false }, kinds := [], alts := [], laidByText := true, laidKinds := [.data], laidTests := true, laidLooks := .later }
def StatetreeDamagedUptoCardSaid : Prop := Claim7.holds Tryz.pinned (.plain (OpenSpec.upto statetreeDamagedSpec)) statetreeDamagedUptoCard
end Rows
end Go.Proofs.YtjeepldonhgohaaGreatDoor
