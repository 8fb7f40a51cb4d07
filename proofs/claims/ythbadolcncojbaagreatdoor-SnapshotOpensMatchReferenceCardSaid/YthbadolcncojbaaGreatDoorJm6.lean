/- Append where it refuses or has nothing to do; Records and Room at nil. -/
import Derived.Test.YthbadolcncojbaaGreatDoorJm4
import Derived.Test.YthbadolcncojbaaGreatDoorEx11

namespace Go.Proofs.YthbadolcncojbaaGreatDoor
open Go Go.RowKit Gw
set_option linter.unusedVariables false
set_option maxRecDepth 100000
attribute [local irreducible] Gw.At Gw.Nx Gw.Ops
theorem jr_broken (j : JrS) (jp dp : Nat) (sj : List Chunk) (v : Value) (hJ : JrR j jp dp sj) (hbr : j.br = true) :
    DoesR Tryz.prog 13 #[.pointer (some ⟨jp, 0, none⟩), v] [sj] (.int .i64 230) := by
  obtain ⟨rs, h, sz, br⟩ := j
  simp only at hbr
  subst hbr
  obtain ⟨hh, hn, v0, sr, hrow, rfl⟩ := hJ
  refine does_mono (does_frame (append_broken jp v v0 (.string (str h)) (.int .i64 (sz : Int)) (.pointer (some ⟨dp, 0, none⟩)) 109) [sr] (by simp)) ?_
  rintro r _ ⟨H2, ⟨rfl, rfl⟩, rfl⟩
  exact ⟨_, ⟨rfl, rfl⟩, by simp⟩
end Go.Proofs.YthbadolcncojbaaGreatDoor
