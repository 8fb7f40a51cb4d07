/- Walking by chunks: a row of elements of several cells behind a sort with a function. No function of the program is named. -/
import Derived.Test.YtkgmgmkbgnkdnaaGreatDoorEz
import Derived.Test.YtkgmgmkbgnkdnaaGreatDoorEx20
import Derived.Shelf.GgSortFunc.RowK
import Derived.Shelf.GgSortFunc.InsertionK

namespace Gw
open Go Go.RowKit Go.Sort
theorem flat_get {α : Type} (f : α → List Value) (k : Nat) (hk : ∀ x, (f x).length = k) : ∀ (l : List α) (i r : Nat) (a : α), l[i]? = some a → r < k → (l.flatMap f)[i * k + r]? = (f a)[r]?
  | [], i, r, a, h, _ => by simp at h
  | x :: l, 0, r, a, h, hr => by
    simp only [List.getElem?_cons_zero, Option.some.injEq] at h
    subst h
    rw [List.flatMap_cons, Nat.zero_mul, Nat.zero_add, List.getElem?_append_left (by rw [hk]; exact hr)]
  | x :: l, i + 1, r, a, h, hr => by
    simp only [List.getElem?_cons_succ] at h
    rw [List.flatMap_cons, List.getElem?_append_right (by rw [hk, Nat.add_mul]; omega), hk, show (i + 1) * k + r - k = i * k + r by rw [Nat.add_mul]; omega]
    exact flat_get f k hk l i r a h hr
theorem flat_len {α : Type} (f : α → List Value) (k : Nat) (hk : ∀ x, (f x).length = k) : ∀ (l : List α), (l.flatMap f).length = l.length * k
  | [] => by simp
  | x :: l => by rw [List.flatMap_cons, List.length_append, flat_len f k hk l, hk, List.length_cons, Nat.add_mul]; omega
theorem flatK_list {α : Type} [Inhabited α] (f : α → List Value) (k : Nat) (hk : ∀ x, (f x).length = k) (l : List α) : (flatK f k l.toArray).toList = l.flatMap f := by
  apply List.ext_getElem?
  intro t
  by_cases ht : t < l.length * k
  · have k0 : 0 < k := by
      rcases Nat.eq_zero_or_pos k with h | h
      · subst h; simp at ht
      · exact h
    have h1 : t / k < l.length := Nat.div_lt_of_lt_mul (by rwa [Nat.mul_comm] at ht)
    have h2 : t % k < k := Nat.mod_lt _ k0
    have e := flat_get f k hk l (t / k) (t % k) l[t / k] (List.getElem?_eq_getElem h1) h2
    rw [Nat.div_add_mod' t k] at e
    rw [e]
    have h3 : t % k < (f l[t / k]).length := by rw [hk]; exact h2
    unfold flatK
    rw [Array.getElem?_toList]
    simp [ht, h1, h3]
  · rw [List.getElem?_eq_none (by simp; omega), List.getElem?_eq_none (by rw [flat_len f k hk]; omega)]
theorem holds_rowK {α : Type} [Inhabited α] {w : World} {g : Nat} {cur : Array Value} {e : TypeId} {z : Nat × Nat} (f : α → List Value) (k : Nat) (hk : ∀ x, (f x).length = k) (l : List α) (hb : w.heap[g]? = some (.cells cur e z)) (hle : l.length * k ≤ cur.size) (hfr : Free z cur.size) (ht : cur.toList.take (l.length * k) = l.flatMap f) : HoldsK f k w g 0 l.toArray := by
  intro j hj
  have hj' : j < l.length * k := by simpa using hj
  have hf := hfr j (by omega)
  have h0 := flatK_list f k hk l
  have h1 : (cur.toList.take (l.length * k))[j]? = (flatK f k l.toArray).toList[j]? := by rw [ht, h0]
  rw [List.getElem?_take_of_lt hj', Array.getElem?_toList, Array.getElem?_toList] at h1
  refine ⟨?_, ?_⟩
  · simp only [World.cell?, hb, Nat.zero_add]
    simp only [Option.isSome_none, Bool.false_eq_true, if_false]
    rw [h1, Array.getElem?_eq_getElem hj, getElem!_pos _ j hj]
    rfl
  · simp only [World.frozen?, hb, Nat.zero_add]
    simp; omega
theorem put_takeK (cur F : Array Value) (h : F.size ≤ cur.size) : (putCells id 0 F cur).toList.take F.size = F.toList := by
  apply List.ext_getElem?
  intro j
  rw [List.getElem?_take]
  by_cases hj : j < F.size
  · rw [if_pos hj, Array.getElem?_toList]
    unfold putCells
    rw [Array.getElem?_mapIdx, Array.getElem?_eq_getElem (by omega)]
    simp [hj]
  · rw [if_neg hj, List.getElem?_eq_none (by simp; omega)]
theorem put_sizeK (cur F : Array Value) : (putCells id 0 F cur).size = cur.size := by simp [putCells]
theorem Sat.sortedK {α : Type} [Inhabited α] {u w : World} {g n k : Nat} {cur : Array Value} {e : TypeId} {z : Nat × Nat} {R : Hp} (f : α → List Value) (d : Array α) (os : Array Obj) (h : Sat u ([(g, .cells cur e z)] :: R) w) : Sat u ([(g, .cells (putCells id 0 (flatK f k d) cur) e z)] :: R) (Go.Proofs.sortWorldK f k w g 0 n d os) := by
  have hb := h.get (g, .cells cur e z) (by simp)
  have h1 : Sat u ([(g, .cells (putCells id 0 (flatK f k d) cur) e z)] :: R) (putRowK f k (Sort.ahead w n) g 0 d) := by
    refine h.upd (.here _) rfl rfl rfl ?_ fun k hk => ?_
    · simp [putRowK, putRow, mapBlock, Sort.ahead, Array.getElem?_modify, hb, onCells]
    · have : g ≠ k := fun e => hk e.symm
      simp [putRowK, putRow, mapBlock, Sort.ahead, Array.getElem?_modify, this]
  exact h1.below ⟨rfl, rfl, rfl, by simp [Go.Proofs.sortWorldK, grow], fun k hk => heap_grow_old _ _ hk⟩
theorem sortWorldK_other {α : Type} [Inhabited α] (f : α → List Value) (k : Nat) (w : World) (g n b : Nat) (d : Array α) (os : Array Obj) (hne : g ≠ b) (hb : b < w.heap.size) : (Go.Proofs.sortWorldK f k w g 0 n d os).heap[b]? = w.heap[b]? := by
  have h1 : (putRowK f k (Sort.ahead w n) g 0 d).heap[b]? = w.heap[b]? := by
    simp [putRowK, putRow, mapBlock, Sort.ahead, Array.getElem?_modify, hne]
  unfold Go.Proofs.sortWorldK
  rw [← h1]
  refine heap_grow_old _ _ ?_
  simpa [putRowK, putRow, mapBlock, Sort.ahead] using hb
end Gw
