/-
  DERIVED. GIVEN WITH THE SEED: THE CARDS: each row of YtkgmgmkbgnkdnaaGreatDoorRows.lean that lists a variable, with what it lists TIED to the program's text (the seventh form; the later family's looks); each row that meets fmt, with fmt's text TOLD by the authors' own Lean function (tested against real Go, not proved from fmt's source: count such statements apart). THE CARD IS WHAT COUNTS. Prove the row's statement (the work); the ties are given (YtkgmgmkbgnkdnaaGreatDoorTie.lean); close each card by the builder's one call (the guide's Derived/Test/ToyasCard.lean, 'card_holds'). Laid BY PROGRAM, IN A SANDBOX (cutbox-door.mjs). By AI agents, Wed Nov 11 2026. No macro, syntax, notation, axiom, sorry.
-/
import Derived.Test.YtkgmgmkbgnkdnaaGreatDoorRows
import GoSem.ClaimSeven
namespace Go.Proofs.YtkgmgmkbgnkdnaaGreatDoor
namespace Rows

/-- THE TIED CARD OF 'cachetierlaw16.LeaseAgrees'. -/
def leaseAgreesCard : Claim7 := { stood := { row := leaseAgreesRow, standIns := [], harness := (true, "80646a93f97e3d58e2edcb49dadf0f0be073dadd797bf1fd9bdd80833f018621"), looks := true }, kinds := [], alts := [], laidByText := true, laidKinds := [.data, .sentinel], laidTests := true, laidLooks := .later }
def LeaseAgreesCardSaid : Prop := Claim7.holds Tryz.pinned (.plain (OpenSpec.ofChange leaseAgreesSpec)) leaseAgreesCard

/-- THE SECOND FORM's CARD OF 'cachetierlaw16.LeaseAgrees'. -/
def leaseAgreesUptoCard : Claim7 := { stood := { row := leaseAgreesUptoRow, standIns := [], harness := (true, "80646a93f97e3d58e2edcb49dadf0f0be073dadd797bf1fd9bdd80833f018621"), looks := true }, kinds := [], alts := [], laidByText := true, laidKinds := [.data, .sentinel], laidTests := true, laidLooks := .later }
def LeaseAgreesUptoCardSaid : Prop := Claim7.holds Tryz.pinned (.plain (OpenSpec.upto leaseAgreesSpec)) leaseAgreesUptoCard
end Rows
end Go.Proofs.YtkgmgmkbgnkdnaaGreatDoor
