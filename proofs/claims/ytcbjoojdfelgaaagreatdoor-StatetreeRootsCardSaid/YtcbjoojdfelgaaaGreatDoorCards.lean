/-
  DERIVED. GIVEN WITH THE SEED: THE CARDS: each row of YtcbjoojdfelgaaaGreatDoorRows.lean that lists a variable, with what it lists TIED to the program's text (the seventh form; the later family's looks); each row that meets fmt, with fmt's text TOLD by the authors' own Lean function (tested against real Go, not proved from fmt's source: count such statements apart). THE CARD IS WHAT COUNTS. Prove the row's statement (the work); the ties are given (YtcbjoojdfelgaaaGreatDoorTie.lean); close each card by the builder's one call (the guide's Derived/Test/ToyasCard.lean, 'card_holds'). Laid BY PROGRAM, IN A SANDBOX (cutbox-door.mjs). By AI agents, Wed Nov 11 2026. No macro, syntax, notation, axiom, sorry.
-/
import Derived.Test.YtcbjoojdfelgaaaGreatDoorRows
import GoSem.ClaimSeven
namespace Go.Proofs.YtcbjoojdfelgaaaGreatDoor
namespace Rows

/-- THE TIED CARD OF 'cachetierlaw10.StatetreeRoots'. -/
def statetreeRootsCard : Claim7 := { stood := { row := statetreeRootsRow, standIns := [], harness := (true, "d2bac7987851c01d25cb3fd27bba49a90f0f3ae302c91fdeadc4f2065724535f"), looks := false }, kinds := [], alts := [], laidByText := true, laidKinds := [.data], laidTests := true, laidLooks := .later }
def StatetreeRootsCardSaid : Prop := Claim7.holds Tryz.pinned (.plain (OpenSpec.ofChange statetreeRootsSpec)) statetreeRootsCard

/-- THE TIED CARD OF 'cachetierlaw10.StatetreeSmaller'. -/
def statetreeSmallerCard : Claim7 := { stood := { row := statetreeSmallerRow, standIns := [], harness := (true, "d2bac7987851c01d25cb3fd27bba49a90f0f3ae302c91fdeadc4f2065724535f"), looks := false }, kinds := [], alts := [], laidByText := true, laidKinds := [.data], laidTests := true, laidLooks := .later }
def StatetreeSmallerCardSaid : Prop := Claim7.holds Tryz.pinned (.plain (OpenSpec.ofChange statetreeSmallerSpec)) statetreeSmallerCard

/-- THE TIED CARD OF 'cachetierlaw10.StatetreeProves'. -/
def statetreeProvesCard : Claim7 := { stood := { row := statetreeProvesRow, standIns := [], harness := (true, "d2bac7987851c01d25cb3fd27bba49a90f0f3ae302c91fdeadc4f2065724535f"), looks := false }, kinds := [], alts := [], laidByText := true, laidKinds := [.data], laidTests := true, laidLooks := .later }
def StatetreeProvesCardSaid : Prop := Claim7.holds Tryz.pinned (.plain (OpenSpec.ofChange statetreeProvesSpec)) statetreeProvesCard

/-- THE TIED CARD OF 'cachetierlaw10.StatetreeColumns'. -/
def statetreeColumnsCard : Claim7 := { stood := { row := statetreeColumnsRow, standIns := [], harness := (true, "d2bac7987851c01d25cb3fd27bba49a90f0f3ae302c91fdeadc4f2065724535f"), looks := false }, kinds := [], alts := [], laidByText := true, laidKinds := [.data], laidTests := true, laidLooks := .later }
def StatetreeColumnsCardSaid : Prop := Claim7.holds Tryz.pinned (.plain (OpenSpec.ofChange statetreeColumnsSpec)) statetreeColumnsCard

/-- THE SECOND FORM's CARD OF 'cachetierlaw10.StatetreeRoots'. -/
def statetreeRootsUptoCard : Claim7 := { stood := { row := statetreeRootsUptoRow, standIns := [], harness := (true, "d2bac7987851c01d25cb3fd27bba49a90f0f3ae302c91fdeadc4f2065724535f"), looks := false }, kinds := [], alts := [], laidByText := true, laidKinds := [.data], laidTests := true, laidLooks := .later }
def StatetreeRootsUptoCardSaid : Prop := Claim7.holds Tryz.pinned (.plain (OpenSpec.upto statetreeRootsSpec)) statetreeRootsUptoCard

/-- THE SECOND FORM's CARD OF 'cachetierlaw10.StatetreeSmaller'. -/
def statetreeSmallerUptoCard : Claim7 := { stood := { row := statetreeSmallerUptoRow, standIns := [], harness := (true, "d2bac7987851c01d25cb3fd27bba49a90f0f3ae302c91fdeadc4f2065724535f"), looks := false }, kinds := [], alts := [], laidByText := true, laidKinds := [.data], laidTests := true, laidLooks := .later }
def StatetreeSmallerUptoCardSaid : Prop := Claim7.holds Tryz.pinned (.plain (OpenSpec.upto statetreeSmallerSpec)) statetreeSmallerUptoCard

/-- THE SECOND FORM's CARD OF 'cachetierlaw10.StatetreeProves'. -/
def statetreeProvesUptoCard : Claim7 := { stood := { row := statetreeProvesUptoRow, standIns := [], harness := (true, "d2bac7987851c01d25cb3fd27bba49a90f0f3ae302c91fdeadc4f2065724535f"), looks := false }, kinds := [], alts := [], laidByText := true, laidKinds := [.data], laidTests := true, laidLooks := .later }
def StatetreeProvesUptoCardSaid : Prop := Claim7.holds Tryz.pinned (.plain (OpenSpec.upto statetreeProvesSpec)) statetreeProvesUptoCard

/-- THE SECOND FORM's CARD OF 'cachetierlaw10.StatetreeColumns'. -/
def statetreeColumnsUptoCard : Claim7 := { stood := { row := statetreeColumnsUptoRow, standIns := [], harness := (true, "d2bac7987851c01d25cb3fd27bba49a90f0f3ae302c91fdeadc4f2065724535f"), looks := false }, kinds := [], alts := [], laidByText := true, laidKinds := [.data], laidTests := true, laidLooks := .later }
def StatetreeColumnsUptoCardSaid : Prop := Claim7.holds Tryz.pinned (.plain (OpenSpec.upto statetreeColumnsSpec)) statetreeColumnsUptoCard
end Rows
end Go.Proofs.YtcbjoojdfelgaaaGreatDoor
