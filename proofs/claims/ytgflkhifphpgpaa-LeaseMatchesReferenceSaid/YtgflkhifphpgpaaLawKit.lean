/- What the laws of layer 16 share: their local slices, the calls that come in, the table beside them. -/
import Derived.Test.YtgflkhifphpgpaaLeaseF
namespace Go.Proofs.Ytgflkhifphpgpaa
open Go Go.RowKit Gw
open Go.ChangeMaps (setBlock)
set_option maxHeartbeats 400000

theorem pickN_nat (j : Nat) (n : Nat) (h : j < n) : pickN (j : Int) n = j := by
  unfold pickN
  have : ¬ (j : Int) < 0 := by omega
  simp only [this, if_false]
  rw [Int.emod_eq_of_lt (by omega) (by omega)]
  omega
theorem key_nat (j : Nat) (w : World) (hj : j < 4) :
    Calls Try.prog 11 #[.int .i64 (j : Int)] w fun e w' => e = .returned (.string (keyB j)) ∧ Below w.heap.size w w' := by
  have h := key_calls (j : Int) w ⟨by omega, by omega⟩
  rw [pickN_nat j 4 hj] at h
  exact h
theorem keyB_inj : ∀ i j, i < 4 → j < 4 → keyB i = keyB j → i = j := by
  intro i j hi hj h
  have : ∀ i j : Fin 4, keyB i.val = keyB j.val → i = j := by decide
  exact congrArg Fin.val (this ⟨i, hi⟩ ⟨j, hj⟩ h)

/- a block of integers -/
def cellsI (l : List Int) : Array Value := (l.map (Value.int .i64)).toArray
theorem cellsI_get (l : List Int) (j : Nat) (h : j < l.length) : (cellsI l)[j]? = some (.int .i64 (l.getD j 0)) := by
  simp [cellsI, h]
theorem cellsI_set (l : List Int) (j : Nat) (v : Int) : (cellsI l).setIfInBounds j (.int .i64 v) = cellsI (l.set j v) := by
  simp [cellsI, List.map_set]
theorem getD_set_same (l : List Int) (j : Nat) (v : Int) (h : j < l.length) : (l.set j v).getD j 0 = v := by simp [h]
theorem getD_set_ne (l : List Int) (i j : Nat) (v : Int) (h : i ≠ j) : (l.set j v).getD i 0 = l.getD i 0 := by
  simp [List.getD, Ne.symm h]

/-- The table, and blocks beside it that hold integers. -/
structure TabI (B : Nat) (W0 w : World) (b mb : Nat) (A : Ents) (n : Int) (Ls : List (Nat × List Int)) : Prop where
  tab : TabB B w b mb A n
  ints : ∀ q ∈ Ls, w.heap[q.1]? = some (.cells (cellsI q.2) 3 (0, 0))
  low : ∀ q ∈ Ls, B ≤ q.1
  off : ∀ q ∈ Ls, ¬ foot b mb A q.1
  nd : (Ls.map (·.1)).Nodup
  below : Below B W0 w
theorem TabI.grow {B : Nat} {W0 w w' : World} {b mb : Nat} {A : Ents} {n : Int} {Ls : List (Nat × List Int)} (h : TabI B W0 w b mb A n Ls) (hb : Below w.heap.size w w') (hB : B ≤ w.heap.size) : TabI B W0 w' b mb A n Ls :=
  ⟨⟨h.tab.tab.keep (Keep.of_below hb (fun _ => False)) (fun _ _ x => x), h.tab.low⟩, fun q hq => (Keep.of_below hb (fun _ => False)).get (h.ints q hq) (fun x => x), h.low, h.off, h.nd, h.below.trans (hb.mono hB)⟩
theorem TabI.op {B : Nat} {W0 w w' : World} {b mb : Nat} {A A' : Ents} {n n' : Int} {Ls : List (Nat × List Int)} (h : TabI B W0 w b mb A n Ls) (hT : TabB B w' b mb A' n') (hK : Keep (foot b mb A) w w') (hB : B ≤ w.heap.size)
    (hf : ∀ i, foot b mb A' i → foot b mb A i ∨ w.heap.size ≤ i) : TabI B W0 w' b mb A' n' Ls :=
  ⟨hT, fun q hq => hK.get (h.ints q hq) (h.off q hq), h.low, fun q hq hq' => by
    rcases hf _ hq' with h1 | h1
    · exact h.off q hq h1
    · have := lt_of_get (h.ints q hq); omega, h.nd, h.below.trans (hK.belowN hB fun i hi => h.tab.low i hi)⟩
def setL (Ls : List (Nat × List Int)) (p j : Nat) (v : Int) : List (Nat × List Int) := Ls.map fun q => if q.1 = p then (q.1, q.2.set j v) else q
theorem TabI.store {B : Nat} {W0 w : World} {b mb : Nat} {A : Ents} {n : Int} {Ls : List (Nat × List Int)} (h : TabI B W0 w b mb A n Ls) (p j : Nat) (v : Int) (hp : p ∈ Ls.map (·.1)) :
    TabI B W0 (w.setCell ⟨p, j, none⟩ (.int .i64 v)) b mb A n (setL Ls p j v) := by
  obtain ⟨q0, hq0, rfl⟩ := List.mem_map.1 hp
  have hoff := h.off q0 hq0
  have e : (setL Ls q0.1 j v).map (·.1) = Ls.map (·.1) := by
    unfold setL; rw [List.map_map]; congr 1; funext q; simp only [Function.comp]; split <;> rfl
  refine ⟨⟨h.tab.tab.keep (Keep.setCell (S := fun i => i = q0.1) (Keep.refl _ _) _ _ fun _ => rfl) (fun i hi e => hoff (e ▸ hi)), h.tab.low⟩, ?_, ?_, ?_, by rw [e]; exact h.nd, h.below.setCell (h.low q0 hq0) _⟩
  · intro q hq
    obtain ⟨q1, hq1, rfl⟩ := List.mem_map.1 hq
    by_cases e1 : q1.1 = q0.1
    · simp only [e1, if_true]
      have := hp_setCell_same (i := j) (.int .i64 v) (h.ints q1 hq1)
      rw [cellsI_set, e1] at this
      exact this
    · simp only [e1, if_false]
      exact hp_setCell_ne _ (h.ints q1 hq1) e1
  · intro q hq
    obtain ⟨q1, hq1, rfl⟩ := List.mem_map.1 hq
    split <;> exact h.low q1 hq1
  · intro q hq
    obtain ⟨q1, hq1, rfl⟩ := List.mem_map.1 hq
    split <;> exact h.off q1 hq1
theorem TabI.cell {B : Nat} {W0 w : World} {b mb : Nat} {A : Ents} {n : Int} {Ls : List (Nat × List Int)} (h : TabI B W0 w b mb A n Ls) (p : Nat) (l : List Int) (hq : (p, l) ∈ Ls) (j : Nat) (hj : j < l.length) :
    w.cell? ⟨p, j, none⟩ = some (.int .i64 (l.getD j 0)) ∧ w.frozen? ⟨p, j, none⟩ = false :=
  ⟨cell_of_block (h.ints _ hq) (cellsI_get l j hj), free_of_block (h.ints _ hq)⟩
theorem setL0 (p : Nat) (l0 l1 : List Int) (j : Nat) (v : Int) : setL [(p, l0), (p + 1, l1)] p j v = [(p, l0.set j v), (p + 1, l1)] := by simp [setL]
theorem setL1 (p : Nat) (l0 l1 : List Int) (j : Nat) (v : Int) : setL [(p, l0), (p + 1, l1)] (p + 1) j v = [(p, l0), (p + 1, l1.set j v)] := by simp [setL]
end Go.Proofs.Ytgflkhifphpgpaa
