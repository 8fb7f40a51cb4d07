/- The table, and blocks of whatever cells beside it. -/
import Derived.Test.YtgflkhifphpgpaaLawKit
import Derived.Deep.RegionHeld3
namespace Go.Proofs.Ytgflkhifphpgpaa
open Go Go.RowKit Gw
open Go.ChangeMaps (setBlock)
set_option maxHeartbeats 400000

def cellsB (l : List Bool) : Array Value := (l.map Value.bool).toArray
theorem cellsB_get (l : List Bool) (j : Nat) (h : j < l.length) : (cellsB l)[j]? = some (.bool (l.getD j false)) := by
  simp [cellsB, h]
theorem cellsB_set (l : List Bool) (j : Nat) (v : Bool) : (cellsB l).setIfInBounds j (.bool v) = cellsB (l.set j v) := by
  simp [cellsB, List.map_set]
theorem getB_set_same (l : List Bool) (j : Nat) (v : Bool) (h : j < l.length) : (l.set j v).getD j false = v := by simp [h]
theorem getB_set_ne (l : List Bool) (i j : Nat) (v : Bool) (h : i ≠ j) : (l.set j v).getD i false = l.getD i false := by
  simp [List.getD, Ne.symm h]

abbrev Blk := Nat × (Array Value × Nat)
structure TabV (B : Nat) (W0 w : World) (b mb : Nat) (A : Ents) (n : Int) (Ls : List Blk) : Prop where
  tab : TabB B w b mb A n
  vals : ∀ q ∈ Ls, w.heap[q.1]? = some (.cells q.2.1 q.2.2 (0, 0))
  low : ∀ q ∈ Ls, B ≤ q.1
  off : ∀ q ∈ Ls, ¬ foot b mb A q.1
  below : Below B W0 w
theorem TabV.grow {B : Nat} {W0 w w' : World} {b mb : Nat} {A : Ents} {n : Int} {Ls : List Blk} (h : TabV B W0 w b mb A n Ls) (hb : Below w.heap.size w w') (hB : B ≤ w.heap.size) : TabV B W0 w' b mb A n Ls :=
  ⟨⟨h.tab.tab.keep (Keep.of_below hb (fun _ => False)) (fun _ _ x => x), h.tab.low⟩, fun q hq => (Keep.of_below hb (fun _ => False)).get (h.vals q hq) (fun x => x), h.low, h.off, h.below.trans (hb.mono hB)⟩
theorem TabV.op {B : Nat} {W0 w w' : World} {b mb : Nat} {A A' : Ents} {n n' : Int} {Ls : List Blk} (h : TabV B W0 w b mb A n Ls) (hT : TabB B w' b mb A' n') (hK : Keep (foot b mb A) w w') (hB : B ≤ w.heap.size)
    (hf : ∀ i, foot b mb A' i → foot b mb A i ∨ w.heap.size ≤ i) : TabV B W0 w' b mb A' n' Ls :=
  ⟨hT, fun q hq => hK.get (h.vals q hq) (h.off q hq), h.low, fun q hq hq' => by
    rcases hf _ hq' with h1 | h1
    · exact h.off q hq h1
    · have := lt_of_get (h.vals q hq); omega, h.below.trans (hK.belowN hB fun i hi => h.tab.low i hi)⟩
def setV (Ls : List Blk) (p j : Nat) (v : Value) : List Blk := Ls.map fun q => if q.1 = p then (q.1, (q.2.1.setIfInBounds j v, q.2.2)) else q
theorem TabV.store {B : Nat} {W0 w : World} {b mb : Nat} {A : Ents} {n : Int} {Ls : List Blk} (h : TabV B W0 w b mb A n Ls) (p j : Nat) (v : Value) (hp : p ∈ Ls.map (·.1)) :
    TabV B W0 (w.setCell ⟨p, j, none⟩ v) b mb A n (setV Ls p j v) := by
  obtain ⟨q0, hq0, rfl⟩ := List.mem_map.1 hp
  have hoff := h.off q0 hq0
  refine ⟨⟨h.tab.tab.keep (Keep.setCell (S := fun i => i = q0.1) (Keep.refl _ _) _ _ fun _ => rfl) (fun i hi e => hoff (e ▸ hi)), h.tab.low⟩, ?_, ?_, ?_, h.below.setCell (h.low q0 hq0) _⟩
  · intro q hq
    obtain ⟨q1, hq1, rfl⟩ := List.mem_map.1 hq
    by_cases e1 : q1.1 = q0.1
    · simp only [e1, if_true]
      have := hp_setCell_same (i := j) v (h.vals q1 hq1)
      rw [e1] at this
      exact this
    · simp only [e1, if_false]
      exact hp_setCell_ne _ (h.vals q1 hq1) e1
  · intro q hq
    obtain ⟨q1, hq1, rfl⟩ := List.mem_map.1 hq
    split <;> exact h.low q1 hq1
  · intro q hq
    obtain ⟨q1, hq1, rfl⟩ := List.mem_map.1 hq
    split <;> exact h.off q1 hq1
theorem TabV.cell {B : Nat} {W0 w : World} {b mb : Nat} {A : Ents} {n : Int} {Ls : List Blk} (h : TabV B W0 w b mb A n Ls) (p : Nat) (c : Array Value) (T : Nat) (hq : (p, (c, T)) ∈ Ls) (j : Nat) (v : Value) (hv : c[j]? = some v) :
    w.cell? ⟨p, j, none⟩ = some v ∧ w.frozen? ⟨p, j, none⟩ = false :=
  ⟨cell_of_block (h.vals _ hq) hv, free_of_block (h.vals _ hq)⟩
theorem below_drew' {B : Nat} {w w' : World} (n : Nat) (h : Below B w w') : Below B w (w'.drewN n) := ⟨h.os, h.tape, h.output, h.size, h.block⟩
end Go.Proofs.Ytgflkhifphpgpaa
