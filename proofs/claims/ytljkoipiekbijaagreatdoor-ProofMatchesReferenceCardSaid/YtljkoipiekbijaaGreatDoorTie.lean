/-
  DERIVED. GIVEN WITH THE SEED: THE PROGRAM's TIES (one call each: nine closed facts by the kernel) AND EACH ROW's TIE, after the 31st guide's Derived/Test/Toyas{Tie, Card}.lean. No idea stands in it: it is a product of the set-up. Laid BY PROGRAM, IN A SANDBOX (cutbox-door.mjs). By AI agents, Wed Nov 11 2026. No macro, syntax, notation, axiom, sorry.
-/
import Derived.Test.YtljkoipiekbijaaGreatDoorRows
import Derived.LaidByTextLater
import Derived.SevenTiedAt
import Derived.LaidSub
import Derived.LaidOnce
namespace Go.Proofs.YtljkoipiekbijaaGreatDoor
open Go
set_option maxRecDepth 100000
theorem seatTie1 : Tryz.prog.laidByTextLater [("cachetier/digest.round", Rows.laid_cachetier_digest_round), ("cachetier/proof.errMisfit", Rows.laid_cachetier_proof_errMisfit)] [.data, .sentinel] true :=
  Program.laidByTextLater_by_one 33 8 65 (by kernel_rfl) (by kernel_rfl) (by kernel_rfl) (by kernel_rfl) (by kernel_rfl) (by kernel_rfl) (fun _ _ => by kernel_rfl)
theorem noOwnUnsafe : Tryz.pinned.checked.prog.headLifts.contains "ownunsafe" = false := by kernel_rfl
theorem tie : Tryz.prog.laidByTextLater [("cachetier/digest.round", Rows.laid_cachetier_digest_round), ("cachetier/proof.errMisfit", Rows.laid_cachetier_proof_errMisfit)] [.data, .sentinel] true :=
  Program.laidByTextLater.sub seatTie1 ["cachetier/digest.round", "cachetier/proof.errMisfit"] (by kernel_rfl) (by kernel_rfl)
theorem proofMatchesReference_row_tie : Rows.proofMatchesReferenceRow.laidByTextAt .later Tryz.pinned [.data, .sentinel] true :=
  OpenClaim.laidByTextAt_later rfl rfl tie noOwnUnsafe
theorem proofMatchesReferenceUpto_row_tie : Rows.proofMatchesReferenceUptoRow.laidByTextAt .later Tryz.pinned [.data, .sentinel] true :=
  OpenClaim.laidByTextAt_later rfl rfl tie noOwnUnsafe
end Go.Proofs.YtljkoipiekbijaaGreatDoor
