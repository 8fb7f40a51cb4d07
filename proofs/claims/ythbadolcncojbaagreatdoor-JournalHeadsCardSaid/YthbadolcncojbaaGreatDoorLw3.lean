/- Contracts: the functions of the law of chapter 23. Contracts: same, few. Contracts: the reference of layer 1: zigzag, PutInt, PutString at numbers that are not negative. -/
import Derived.Test.YthbadolcncojbaaGreatDoorAp4
import Derived.Test.YthbadolcncojbaaGreatDoorOp3

namespace Go.Proofs.YthbadolcncojbaaGreatDoor
open Go Go.RowKit Gw
set_option linter.unusedVariables false
set_option linter.unusedSimpArgs false
set_option maxRecDepth 100000
attribute [local irreducible] Gw.At Gw.Nx Gw.Ops
theorem zz_nat (n : Nat) : zz (n : Int) = 2 * n := by unfold zz; rw [if_neg (by omega)]; omega

end Go.Proofs.YthbadolcncojbaaGreatDoor
