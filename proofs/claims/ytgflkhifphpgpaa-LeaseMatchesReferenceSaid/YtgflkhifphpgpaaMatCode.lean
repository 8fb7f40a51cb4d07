/- The pieces of the code of LeaseMatchesReference, taken out of the translation. -/
import Derived.Test.YtgflkhifphpgpaaRefH
import Derived.Test.YtgflkhifphpgpaaOpenS
import Derived.Deep.DeepCutAuto
import Derived.Deep.CutBlock
import Derived.BigQuiet
import Derived.Deep.RegionHeld3
namespace Go.Proofs.Ytgflkhifphpgpaa
open Go Go.RowKit Gw
open Go.ChangeMaps (setBlock)
set_option maxHeartbeats 4000000
set_option linter.unusedVariables false
set_option maxRecDepth 1000000

def subBlock (n : Nat) : Code → Option Code
  | .block m c => if m = n then some (.block m c) else subBlock n c
  | .seq a b => match subBlock n a with
    | some c => some c
    | none => subBlock n b
  | .cond _ a b => match subBlock n a with
    | some c => some c
    | none => subBlock n b
  | .loop c => subBlock n c
  | _ => none
def subRegion (n : Nat) : Code → Option Code
  | .seq (.region m ops d) b => if m = n then some (.seq (.region m ops d) b) else subRegion n b
  | .seq a b => match subRegion n a with
    | some c => some c
    | none => subRegion n b
  | .cond _ a b => match subRegion n a with
    | some c => some c
    | none => subRegion n b
  | .block _ c => subRegion n c
  | .loop c => subRegion n c
  | _ => none
noncomputable def blk2 : Code := ((Try.f3.body.bind (subBlock 2)).getD .skip)
noncomputable def tail42 : Code := ((Try.f3.body.bind (subRegion 42)).getD .skip)
end Go.Proofs.Ytgflkhifphpgpaa
