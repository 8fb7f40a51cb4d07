/- Two segments brought together, at operations and behind them. -/
import Derived.Test.YthbadolcncojbaaGreatDoorEx13
namespace Gw
open Go Go.RowKit
theorem ops_join {P : Program} {ops : Array Oper} {l : List Oper} {cx : Cx} {Q : Exit → Act → World → Prop} {env : Env} {s1 s2 : List Chunk} {H R1 R2 : Hp} (h1 : One s1 H R1) (h2 : One s2 R1 R2) (k : Ops P ops l cx Q env ((s1 ++ s2) :: R2)) : Ops P ops l cx Q env H := fun a w hs =>
  k a w ⟨hs.size, hs.defers, hs.fit, hs.sat.perm (by
    simp only [List.flatten_cons, List.append_assoc]
    exact h1.perm.trans (List.Perm.append_left s1 h2.perm))⟩
end Gw
