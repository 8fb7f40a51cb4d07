/- The reference of layer 22: apply, Visible, Write, Sync, Read, New. The reference of layer 22 over plain states. -/
/- The reference of layer 1: PutInt, Int, String. -/
import Derived.Test.YthbadolcncojbaaGreatDoorJm4
import Derived.Test.YthbadolcncojbaaGreatDoorLw3
import Derived.Test.YthbadolcncojbaaGreatDoorSn2
import Derived.Test.YthbadolcncojbaaGreatDoorEx11
import Derived.Test.YthbadolcncojbaaGreatDoorPl3

namespace Go.Proofs.YthbadolcncojbaaGreatDoor
open Go Go.RowKit Gw
set_option linter.unusedVariables false
set_option maxRecDepth 100000
attribute [local irreducible] Gw.At Gw.Nx Gw.Ops
/-- What is visible: the writes that are pending, one over another. -/
def vis (du : List UInt8) (l : List (Nat × List UInt8)) : List UInt8 := l.foldl (fun b p => splice b p.1 p.2) du
theorem vis_snoc (du : List UInt8) (l : List (Nat × List UInt8)) (p : Nat × List UInt8) : vis du (l ++ [p]) = splice (vis du l) p.1 p.2 := by simp [vis]
theorem vis_len (du : List UInt8) (l : List (Nat × List UInt8)) (h : ∀ p ∈ l, p.1 + p.2.length ≤ du.length) : (vis du l).length = du.length := by
  induction l generalizing du with
  | nil => rfl
  | cons p l ih =>
    have h1 := splice_len du p.1 p.2 (h p (by simp))
    show (vis (splice du p.1 p.2) l).length = _
    rw [ih _ (fun q hq => by rw [h1]; exact h q (by simp [hq])), h1]
theorem splice_zero (l : List UInt8) (o : Nat) : splice l o [] = l := by unfold splice; simp
theorem pend_off {l : List (Nat × List UInt8)} {i : Nat} {p : Nat × List UInt8} (h : l[i]? = some p) : (pendC l)[i * 2]? = some (.int .i64 (p.1 : Int)) ∧ (pendC l)[i * 2 + 1]? = some (.string (str p.2)) := by
  induction l generalizing i with
  | nil => cases h
  | cons a l ih =>
    cases i with
    | zero =>
      simp only [List.getElem?_cons_zero, Option.some.injEq] at h
      subst h
      exact ⟨rfl, rfl⟩
    | succ i =>
      rw [List.getElem?_cons_succ] at h
      obtain ⟨h1, h2⟩ := ih h
      have e : pendC (a :: l) = .int .i64 (a.1 : Int) :: .string (str a.2) :: pendC l := rfl
      rw [e, show (i + 1) * 2 = i * 2 + 1 + 1 by omega]
      exact ⟨h1, h2⟩
theorem rowS_at {sz : Nat} {e : TypeId} {v : Value} {k : Nat} {xs : List Value} {s : List Chunk} (h : RowS sz e v k xs s) (hk : 0 < k) : ∃ g cap cur z, v = .slice (some ⟨g, 0, none⟩) k cap ∧ s = [(g, .cells cur e z)] ∧ k ≤ cap ∧ ∀ (j : Nat) (x : Value), xs[j]? = some x → cur[j]? = some x := by
  obtain ⟨hl, ⟨_, h2, _⟩ | ⟨g, cap, cur, z, rfl, rfl, hle, hcm, hcs, htk, hfr⟩⟩ := h
  · omega
  · refine ⟨g, cap, cur, z, rfl, rfl, hle, fun j x hx => ?_⟩
    have hj := (List.getElem?_eq_some_iff.1 hx).1
    rw [← Array.getElem?_toList]
    rw [← htk, List.getElem?_take] at hx
    split at hx
    · exact hx
    · cases hx
end Go.Proofs.YthbadolcncojbaaGreatDoor


namespace Go.Proofs.YthbadolcncojbaaGreatDoor
open Go Go.RowKit Gw
set_option linter.unusedVariables false
set_option maxRecDepth 100000
attribute [local irreducible] Gw.At Gw.Nx Gw.Ops
def putE (n : Int) : Int := if n < -4611686018427387903 then 10 else 0

end Go.Proofs.YthbadolcncojbaaGreatDoor
