/- Sorted lists of rows: what a change does to them. -/
/- The reference of layer 4: Apply. -/
import Derived.Test.YtkgmgmkbgnkdnaaGreatDoorEz
import Derived.Test.YtkgmgmkbgnkdnaaGreatDoorLg7
import Derived.Test.YtkgmgmkbgnkdnaaGreatDoorEx16

namespace Go.Proofs.YtkgmgmkbgnkdnaaGreatDoor
open Go.Proofs.Tryz
open Go Go.RowKit Gw
set_option linter.unusedVariables false
set_option linter.unusedSimpArgs false
set_option maxRecDepth 100000
attribute [local irreducible] Gw.At Gw.Nx Gw.Ops
theorem place_split : ∀ (rs : List RowM) (t k : Int), SortedR rs → ∃ A B, rs = A ++ B ∧ A.length = placeL rs t k ∧ (∀ r ∈ A, r.lt2 t k) ∧ (∀ r ∈ B, ¬ r.lt2 t k)
  | [], t, k, _ => ⟨[], [], rfl, rfl, by simp, by simp⟩
  | r :: rs, t, k, hs => by
    have hs' := List.pairwise_cons.1 hs
    by_cases h : r.lt2 t k
    · obtain ⟨A, B, h1, h2, h3, h4⟩ := place_split rs t k hs'.2
      refine ⟨r :: A, B, by rw [h1]; rfl, ?_, ?_, h4⟩
      · unfold placeL at *
        rw [List.takeWhile_cons, if_pos (by simpa using h), List.length_cons, List.length_cons, h2]
      · intro x hx
        rcases List.mem_cons.1 hx with rfl | hx
        · exact h
        · exact h3 x hx
    · refine ⟨[], r :: rs, rfl, ?_, by simp, ?_⟩
      · unfold placeL
        rw [List.takeWhile_cons, if_neg (by simpa using h)]
      · intro x hx hc
        rcases List.mem_cons.1 hx with rfl | hx
        · exact h hc
        · exact h (lt2_trans (hs'.1 x hx) hc)
theorem is_not_lt {r : RowM} {t k : Int} (h : r.is t k) : ¬ r.lt2 t k := by unfold RowM.is RowM.lt2 at *; omega
theorem get_true {rs : List RowM} {t k : Int} {r : RowM} (hs : SortedR rs) (hr : r ∈ rs) (h : r.is t k) : getL rs t k = (r, true) := by
  obtain ⟨A, B, h1, h2, h3, h4⟩ := place_split rs t k hs
  have hB : r ∈ B := by
    rw [h1] at hr
    rcases List.mem_append.1 hr with h9 | h9
    · exact absurd (h3 r h9) (is_not_lt h)
    · exact h9
  cases B with
  | nil => cases hB
  | cons b B =>
    have hb : b = r := by
      rcases List.mem_cons.1 hB with h9 | h9
      · exact h9.symm
      · exfalso
        have hs2 : SortedR (b :: B) := by rw [h1] at hs; exact (List.pairwise_append.1 hs).2.1
        have h8 := (List.pairwise_cons.1 hs2).1 r h9
        have h7 := h4 b (by simp)
        unfold RowM.is at h
        rw [h.1, h.2] at h8
        exact h7 h8
    subst hb
    have hg : rs[placeL rs t k]? = some b := by rw [← h2, h1, List.getElem?_append_right (Nat.le_refl _), Nat.sub_self]; rfl
    unfold getL
    rw [hg]
    simp only
    rw [if_pos h]
theorem get_false {rs : List RowM} {t k : Int} (h : ∀ r ∈ rs, ¬ r.is t k) : getL rs t k = (RowM.zero, false) := by
  unfold getL
  split
  · rename_i r hr
    rw [if_neg (h r (List.mem_of_getElem? hr))]
  · rfl
theorem get_some {rs : List RowM} {t k : Int} (h : (getL rs t k).2 = true) : ∃ r ∈ rs, r.is t k ∧ rs[placeL rs t k]? = some r ∧ getL rs t k = (r, true) := by
  unfold getL at *
  split at h
  · rename_i r hr
    split at h
    · rename_i hi
      exact ⟨r, List.mem_of_getElem? hr, hi, hr, by rw [if_pos hi]⟩
    · cases h
  · cases h
def fitC (rs : List RowM) (c : Chg) : Prop := (getL rs c.t c.k).2 = c.had ∧ ((getL rs c.t c.k).2 = true → (getL rs c.t c.k).1.v = c.o)
def newC (c : Chg) : List RowM := if c.has then [⟨c.t, c.k, c.n⟩] else []
def putL (rs : List RowM) (c : Chg) : List RowM := rs.take (placeL rs c.t c.k) ++ newC c ++ (rs.drop (placeL rs c.t c.k)).drop (if c.had then 1 else 0)
theorem newC_mem {c : Chg} {x : RowM} : x ∈ newC c ↔ c.has = true ∧ x = ⟨c.t, c.k, c.n⟩ := by
  unfold newC
  cases c.has <;> simp
theorem put_split {rs : List RowM} {c : Chg} (hs : SortedR rs) (hf : fitC rs c) : ∃ A B, putL rs c = A ++ newC c ++ B ∧ (∀ x, x ∈ rs ↔ x ∈ A ∨ x ∈ B ∨ (x ∈ rs ∧ x.is c.t c.k)) ∧ SortedR A ∧ SortedR B ∧ (∀ r ∈ A, r.lt2 c.t c.k) ∧ (∀ r ∈ B, c.t < r.t ∨ c.t = r.t ∧ c.k < r.k) ∧ rs.length = A.length + B.length + (if c.had then 1 else 0) := by
  obtain ⟨A, B, h1, h2, h3, h4⟩ := place_split rs c.t c.k hs
  have hsA : SortedR A := by rw [h1] at hs; exact (List.pairwise_append.1 hs).1
  have hsB : SortedR B := by rw [h1] at hs; exact (List.pairwise_append.1 hs).2.1
  have hta : rs.take (placeL rs c.t c.k) = A := by rw [← h2, h1, List.take_left' rfl]
  have hdr : rs.drop (placeL rs c.t c.k) = B := by rw [← h2, h1, List.drop_left' rfl]
  unfold putL
  rw [hta, hdr]
  have gt_of : ∀ x ∈ B, ¬ x.is c.t c.k → c.t < x.t ∨ c.t = x.t ∧ c.k < x.k := fun x hx hn => by
    have h9 := h4 x hx
    unfold RowM.lt2 at h9; unfold RowM.is at hn; omega
  cases hh : c.had with
  | false =>
    have hno : ∀ r ∈ rs, ¬ r.is c.t c.k := fun r hr hi => by
      have h9 := hf.1
      rw [get_true hs hr hi, hh] at h9; cases h9
    refine ⟨A, B, by simp, fun x => ?_, hsA, hsB, h3, fun r hr => gt_of r hr (hno r (by rw [h1]; exact List.mem_append_right _ hr)), by rw [h1]; simp⟩
    rw [h1, List.mem_append]
    constructor
    · rintro (h | h)
      · exact .inl h
      · exact .inr (.inl h)
    · rintro (h | h | ⟨h, _⟩)
      · exact .inl h
      · exact .inr h
      · exact h
  | true =>
    obtain ⟨r, hr, hi, hp, hg⟩ := get_some (by rw [hf.1, hh] : (getL rs c.t c.k).2 = true)
    have hb : B[0]? = some r := by rw [← h2, h1, List.getElem?_append_right (Nat.le_refl _), Nat.sub_self] at hp; exact hp
    cases B with
    | nil => cases hb
    | cons b B =>
      injection hb with hb
      subst hb
      have hsB2 := List.pairwise_cons.1 hsB
      refine ⟨A, B, by simp, fun x => ?_, hsA, hsB2.2, h3, fun x hx => ?_, by rw [h1]; simp; omega⟩
      · constructor
        · intro hx
          have hx2 := hx
          rw [h1] at hx
          rcases List.mem_append.1 hx with h | h
          · exact .inl h
          · rcases List.mem_cons.1 h with rfl | h
            · exact .inr (.inr ⟨hx2, hi⟩)
            · exact .inr (.inl h)
        · rintro (h | h | ⟨h, _⟩)
          · rw [h1]; exact List.mem_append_left _ h
          · rw [h1]; exact List.mem_append_right _ (List.mem_cons_of_mem _ h)
          · exact h
      · have h9 := hsB2.1 x hx
        unfold RowM.lt2 at h9; unfold RowM.is at hi; omega
theorem mem_put {rs : List RowM} {c : Chg} (hs : SortedR rs) (hf : fitC rs c) (x : RowM) : x ∈ putL rs c ↔ (x ∈ rs ∧ ¬ x.is c.t c.k) ∨ (c.has = true ∧ x = ⟨c.t, c.k, c.n⟩) := by
  obtain ⟨A, B, h1, h2, _, _, h3, h4, _⟩ := put_split hs hf
  rw [h1, List.mem_append, List.mem_append, newC_mem]
  have a9 : ∀ x ∈ A, ¬ x.is c.t c.k := fun x hx hi => is_not_lt hi (h3 x hx)
  have b9 : ∀ x ∈ B, ¬ x.is c.t c.k := fun x hx hi => by have h9 := h4 x hx; unfold RowM.is at hi; omega
  constructor
  · rintro ((h | h) | h)
    · exact .inl ⟨(h2 x).2 (.inl h), a9 x h⟩
    · exact .inr h
    · exact .inl ⟨(h2 x).2 (.inr (.inl h)), b9 x h⟩
  · rintro (⟨h, hn⟩ | h)
    · rcases (h2 x).1 h with h9 | h9 | ⟨_, h9⟩
      · exact .inl (.inl h9)
      · exact .inr h9
      · exact absurd h9 hn
    · exact .inl (.inr h)
theorem sorted_put {rs : List RowM} {c : Chg} (hs : SortedR rs) (hf : fitC rs c) : SortedR (putL rs c) := by
  obtain ⟨A, B, h1, _, hA, hB, h3, h4, _⟩ := put_split hs hf
  rw [h1]
  have lt_of : ∀ a b : RowM, a.lt2 c.t c.k → (c.t < b.t ∨ c.t = b.t ∧ c.k < b.k) → a.lt2 b.t b.k := fun a b ha hb => by unfold RowM.lt2 at *; omega
  refine List.pairwise_append.2 ⟨List.pairwise_append.2 ⟨hA, ?_, ?_⟩, hB, ?_⟩
  · unfold newC; split <;> simp
  · intro a ha b hb
    obtain ⟨_, rfl⟩ := newC_mem.1 hb
    exact h3 a ha
  · intro a ha b hb
    rcases List.mem_append.1 ha with ha | ha
    · exact lt_of a b (h3 a ha) (h4 b hb)
    · obtain ⟨_, rfl⟩ := newC_mem.1 ha
      have := h4 b hb
      unfold RowM.lt2; simp only; omega
theorem len_put {rs : List RowM} {c : Chg} (hs : SortedR rs) (hf : fitC rs c) : ((putL rs c).length : Int) = rs.length + (if c.has then 1 else 0) - (if c.had then 1 else 0) := by
  obtain ⟨A, B, h1, _, _, _, _, _, h5⟩ := put_split hs hf
  rw [h1, h5]
  unfold newC
  cases c.has <;> cases c.had <;> simp <;> omega
theorem get_put {rs : List RowM} {c : Chg} (hs : SortedR rs) (hf : fitC rs c) {t k : Int} (hne : ¬ (c.t = t ∧ c.k = k)) : getL (putL rs c) t k = getL rs t k := by
  cases hg : (getL rs t k).2 with
  | true =>
    obtain ⟨r, hr, hi, _, he⟩ := get_some hg
    rw [he]
    exact get_true (sorted_put hs hf) ((mem_put hs hf r).2 (.inl ⟨hr, fun h => by unfold RowM.is at h hi; omega⟩)) hi
  | false =>
    have hno : ∀ r ∈ rs, ¬ r.is t k := fun r hr hi => by rw [get_true hs hr hi] at hg; cases hg
    rw [get_false hno]
    refine get_false fun r hr hi => ?_
    rcases (mem_put hs hf r).1 hr with ⟨h, _⟩ | ⟨_, rfl⟩
    · exact hno r h hi
    · exact hne hi
def putAllR (rs : List RowM) (cs : List Chg) : List RowM := cs.foldl putL rs
theorem putAllR_next (rs : List RowM) (cs : List Chg) (i : Nat) (c : Chg) (h : cs[i]? = some c) : putAllR rs (cs.take (i + 1)) = putL (putAllR rs (cs.take i)) c := by
  unfold putAllR
  rw [List.take_add_one, h, List.foldl_append]; rfl
def AscC (cs : List Chg) : Prop := ∀ (i j : Nat) (b c : Chg), i < j → cs[i]? = some b → cs[j]? = some c → b.lt c
theorem chg_trans {a b c : Chg} (h : a.lt b) (h2 : b.lt c) : a.lt c := by unfold Chg.lt at *; omega
theorem asc_of {cs : List Chg} (h : ∀ (i : Nat) (b c : Chg), cs[i]? = some b → cs[i + 1]? = some c → b.lt c) : AscC cs := by
  intro i j b c hij hb hc
  obtain ⟨d, rfl⟩ : ∃ d, j = i + 1 + d := ⟨j - (i + 1), by omega⟩
  clear hij
  induction d generalizing c with
  | zero => exact h i b c hb hc
  | succ d ih =>
    obtain ⟨x, hx⟩ : ∃ x, cs[i + 1 + d]? = some x := by
      have := (List.getElem?_eq_some_iff.1 hc).1
      exact ⟨_, List.getElem?_eq_getElem (by omega)⟩
    exact chg_trans (ih x hx) (h (i + 1 + d) x c hx hc)
theorem fold_inv {rs : List RowM} {cs : List Chg} (hs : SortedR rs) (ha : AscC cs) (hf : ∀ c ∈ cs, fitC rs c) : ∀ i, i ≤ cs.length → SortedR (putAllR rs (cs.take i)) ∧ ∀ (j : Nat) (c : Chg), i ≤ j → cs[j]? = some c → fitC (putAllR rs (cs.take i)) c
  | 0, _ => ⟨hs, fun j c _ hc => hf c (List.mem_of_getElem? hc)⟩
  | i + 1, hi => by
    obtain ⟨h1, h2⟩ := fold_inv hs ha hf i (by omega)
    obtain ⟨x, hx⟩ : ∃ x, cs[i]? = some x := ⟨_, List.getElem?_eq_getElem (by omega)⟩
    rw [putAllR_next rs cs i x hx]
    have hfx := h2 i x (Nat.le_refl _) hx
    refine ⟨sorted_put h1 hfx, fun j c hj hc => ?_⟩
    have hlt := ha i j x c (by omega) hx hc
    have h9 := h2 j c (by omega) hc
    unfold fitC at *
    rw [get_put h1 hfx (by unfold Chg.lt at hlt; omega)]
    exact h9
def sizeC (c : Chg) : Int := (if c.has then 1 else 0) - (if c.had then 1 else 0)
def sizeL (rs : List RowM) (cs : List Chg) : Int := cs.foldl (fun n c => n + sizeC c) (rs.length : Int)
theorem sizeL_next (rs : List RowM) (cs : List Chg) (i : Nat) (c : Chg) (h : cs[i]? = some c) : sizeL rs (cs.take (i + 1)) = sizeL rs (cs.take i) + sizeC c := by
  unfold sizeL
  rw [List.take_add_one, h, List.foldl_append]; rfl
theorem sizeC_le (c : Chg) : -1 ≤ sizeC c ∧ sizeC c ≤ 1 := by unfold sizeC; split <;> split <;> omega
theorem sizeL_le (rs : List RowM) (cs : List Chg) : ∀ i, (rs.length : Int) - i ≤ sizeL rs (cs.take i) ∧ sizeL rs (cs.take i) ≤ rs.length + i
  | 0 => by unfold sizeL; simp
  | i + 1 => by
    have ih := sizeL_le rs cs i
    cases h : cs[i]? with
    | none => rw [List.take_add_one, h]; simp only [Option.toList, List.append_nil]; omega
    | some c => have h9 := sizeC_le c; rw [sizeL_next rs cs i c h]; omega
theorem len_putAll {rs : List RowM} {cs : List Chg} (hs : SortedR rs) (ha : AscC cs) (hf : ∀ c ∈ cs, fitC rs c) : ∀ i, i ≤ cs.length → ((putAllR rs (cs.take i)).length : Int) = sizeL rs (cs.take i)
  | 0, _ => rfl
  | i + 1, hi => by
    obtain ⟨x, hx⟩ : ∃ x, cs[i]? = some x := ⟨_, List.getElem?_eq_getElem (by omega)⟩
    have ih := len_putAll hs ha hf i (by omega)
    obtain ⟨h1, h2⟩ := fold_inv hs ha hf i (by omega)
    rw [putAllR_next rs cs i x hx, sizeL_next rs cs i x hx, len_put h1 (h2 i x (Nat.le_refl _) hx), ih]
    unfold sizeC; omega
structure AppOk (rs : List RowM) (p rp : Int) (cs : List Chg) : Prop where
  ok : RecOk rp cs
  pos : rp = p + 1
  fit : ∀ c ∈ cs, fitC rs c
  size : sizeL rs cs ≤ 2000
theorem fit_more {rs : List RowM} {cs : List Chg} {i : Nat} {x : Chg} (h : ∀ c ∈ cs.take i, fitC rs c) (hx : cs[i]? = some x) (ho : fitC rs x) : ∀ c ∈ cs.take (i + 1), fitC rs c := by
  rw [List.take_add_one, hx]
  intro c hc
  rcases List.mem_append.1 hc with h9 | h9
  · exact h c h9
  · rw [List.mem_singleton.1 h9]; exact ho
theorem rowCells_app (a b : List RowM) : rowCells (a ++ b) = rowCells a ++ rowCells b := by unfold rowCells; rw [List.flatMap_append]
theorem rowCells_len : ∀ (rs : List RowM), (rowCells rs).length = rs.length * 5
  | [] => rfl
  | r :: rs => by
    have := rowCells_len rs
    unfold rowCells at *
    rw [List.flatMap_cons, List.length_append, this, List.length_cons]; simp; omega
theorem rowCells_take (rs : List RowM) (k : Nat) : (rowCells rs).take (k * 5) = rowCells (rs.take k) := by
  rcases Nat.lt_or_ge rs.length k with h | h
  · rw [List.take_of_length_le (by rw [rowCells_len]; omega), List.take_of_length_le (by omega)]
  · have e : rowCells rs = rowCells (rs.take k) ++ rowCells (rs.drop k) := by rw [← rowCells_app, List.take_append_drop]
    rw [e, List.take_left' (by rw [rowCells_len, List.length_take]; omega)]
theorem rowCells_drop (rs : List RowM) (k : Nat) : (rowCells rs).drop (k * 5) = rowCells (rs.drop k) := by
  rcases Nat.lt_or_ge rs.length k with h | h
  · rw [List.drop_of_length_le (by rw [rowCells_len]; omega), List.drop_of_length_le (by omega)]; rfl
  · have e : rowCells rs = rowCells (rs.take k) ++ rowCells (rs.drop k) := by rw [← rowCells_app, List.take_append_drop]
    rw [e, List.drop_left' (by rw [rowCells_len, List.length_take]; omega)]
theorem rowCells_one (rs : List RowM) : ∀ u ∈ rowCells rs, u.oneCell' = true := by
  intro u hu
  unfold rowCells at hu
  obtain ⟨r, _, h⟩ := List.mem_flatMap.1 hu
  simp only [List.mem_cons, List.not_mem_nil, or_false] at h
  rcases h with rfl | rfl | rfl | rfl | rfl <;> rfl

end Go.Proofs.YtkgmgmkbgnkdnaaGreatDoor

namespace Go.Proofs.YtkgmgmkbgnkdnaaGreatDoor
open Go.Proofs.Tryz
open Go Go.RowKit Gw
set_option linter.unusedVariables false
set_option linter.unusedSimpArgs false
set_option maxRecDepth 100000
attribute [local irreducible] Gw.At Gw.Nx Gw.Ops
theorem rowS_eq {sz : Nat} {e : TypeId} {v : Value} {n n' : Nat} {xs xs' : List Value} {s : List Chunk} (h : RowS sz e v n xs s) (hn : n = n') (hx : xs = xs') : RowS sz e v n' xs' s := by subst hn hx; exact h
theorem rowS_le {sz : Nat} {e : TypeId} {b : Option Addr} {n c : Nat} {xs : List Value} {s : List Chunk} (h : RowS sz e (.slice b n c) n xs s) : n ≤ c := by
  obtain ⟨_, ⟨hv, h0, _⟩ | ⟨_, _, _, _, hv, _, h2, _⟩⟩ := h
  · omega
  · injection hv with _ _ hv3; omega
theorem subS_none (sz : Nat) (b : Option Addr) (c : Nat) : SubVS sz (.slice b 0 c) 0 [] [] := ⟨by simp, .inl ⟨rfl, b, c, rfl⟩⟩
theorem subS_new (sz g k c : Nat) (e : TypeId) (z : Nat × Nat) (xs : List Value) (h : xs.length = k * sz) : SubVS sz (.slice (some ⟨g, 0, none⟩) k c) k xs [(g, .cells xs.toArray e z)] :=
  ⟨h, .inr ⟨g, 0, c, xs.toArray, e, z, rfl, rfl, by unfold CellsIn; rw [List.drop_zero]; simp⟩⟩
theorem newC_t {c : Chg} (h : c.has = true) : newC c = [⟨c.t, c.k, c.n⟩] := if_pos h
theorem newC_f {c : Chg} (h : c.has = false) : newC c = [] := if_neg (by rw [h]; decide)
theorem sz_tt {rs : List RowM} {cs : List Chg} {i : Nat} {x : Chg} (hx : cs[i]? = some x) (h1 : x.had = true) (h2 : x.has = true) : sizeL rs (cs.take (i + 1)) = sizeL rs (cs.take i) - 1 + 1 := by rw [sizeL_next rs cs i x hx]; unfold sizeC; rw [if_pos h2, if_pos h1]; omega
theorem sz_tf {rs : List RowM} {cs : List Chg} {i : Nat} {x : Chg} (hx : cs[i]? = some x) (h1 : x.had = true) (h2 : x.has = false) : sizeL rs (cs.take (i + 1)) = sizeL rs (cs.take i) - 1 := by rw [sizeL_next rs cs i x hx]; unfold sizeC; rw [if_neg (by rw [h2]; decide), if_pos h1]; omega
theorem sz_ft {rs : List RowM} {cs : List Chg} {i : Nat} {x : Chg} (hx : cs[i]? = some x) (h1 : x.had = false) (h2 : x.has = true) : sizeL rs (cs.take (i + 1)) = sizeL rs (cs.take i) + 1 := by rw [sizeL_next rs cs i x hx]; unfold sizeC; rw [if_pos h2, if_neg (by rw [h1]; decide)]; omega
theorem sz_ff {rs : List RowM} {cs : List Chg} {i : Nat} {x : Chg} (hx : cs[i]? = some x) (h1 : x.had = false) (h2 : x.has = false) : sizeL rs (cs.take (i + 1)) = sizeL rs (cs.take i) := by rw [sizeL_next rs cs i x hx]; unfold sizeC; rw [if_neg (by rw [h2]; decide), if_neg (by rw [h1]; decide)]; omega

theorem r4_apply (sp : Nat) (p rp : Int) (v : Value) (rs : List RowM) (sv M : List Chunk) (q : Option Addr) (capc : Nat) (cs : List Chg) (hrow : RowS 5 67 v rs.length (rowCells rs) sv) (hO : ChgsIn M (.slice q cs.length capc) cs) (hs : SortedR rs) (hn : rs.length ≤ 2000) (hp : 0 ≤ p ∧ p ≤ 10000) :
    Does Tryz.prog 21 #[.pointer (some ⟨sp, 0, none⟩), .agg #[.int .i64 rp, .slice q cs.length capc]] [[(sp, .cells #[v, .int .i64 p] 71 (0, 0))], sv, M] (fun r H' => (AppOk rs p rp cs ∧ ∃ v' sv', r = .int .i64 0 ∧ RowS 5 67 v' (putAllR rs cs).length (rowCells (putAllR rs cs)) sv' ∧ H' = [[(sp, .cells #[v', .int .i64 rp] 71 (0, 0))], sv', M]) ∨ (¬ AppOk rs p rp cs ∧ r = .int .i64 40 ∧ H' = [[(sp, .cells #[v, .int .i64 p] 71 (0, 0))], sv, M])) := by
 have hml : maxLen = 9223372036854775807 := rfl
 obtain ⟨qv, capv, rfl⟩ := hrow.form
 have hRI := rowsIn_of hrow (by omega)
 obtain ⟨p9, cap9, e9, hol, hg⟩ := id hO
 injection e9 with e91 e92 e93
 subst e91 e93
 refine spec_enter func21 rfl ntmps21 rfl ?_
 intro u R
 refine Zb [0, 1] ?_
 refine Zq <| Zg <| Ze (w_box Y (cs := #[_, _]) rfl) ?_
 rintro _ _ ⟨rb, rfl, rfl⟩
 refine Za Y <| Z0 <| Zx <| Zq <| Zg <| Zo Wh (p_load_agg (cs := #[_, _]) isAgg51 sizeOf51 Y Wn (by rfl)) ?_
 refine Xr [_] Y call46 Y rfl (r3_validr rp q capc cs M hO) ?_
 refine Za Y <| Z0 <| Zx <| Zq <| Zq <| at_draw (n := 12) (0 :: 1 :: 3 :: 7 :: 15 :: 7 :: 39 :: 103 :: 231 :: 487 :: 1023 :: 2047 :: []) 0 (by kernel_rfl) (by kernel_rfl) rfl ?_
 refine Zi 1 0 rfl (p_move Y) <| Zi 3 1 rfl (p_not_dec Y) <| Zi 7 2 rfl (p_move Y) ?_
 refine lin_split (t := 23) Y (fun hv => ?_) (fun hv => ?_)
 ·
  first | rw [decide_eq_true hv] | rw [hv] | skip
  refine Yk 15 3 rfl <| Yk 31 4 rfl <| Yk 63 5 rfl <| Yk 127 6 rfl <| Yk 255 7 rfl <| Yk 511 8 rfl <| Yk 1023 9 rfl <| Yk 2047 10 rfl <| Zi 4095 11 rfl (p_pick_t Y Y) <| lin_nil ?_
  refine Zn [0, 3, 32] ?_
  refine Zx <| at_then Y <| Zq <| Zg <| Za Y <| Z0 <| Zx <| at_ret <| Zt ?_
  refine nx_end1 rfl results21 Y (by exact .inr ⟨fun h => hv h.ok, rfl, rfl⟩)
 first | rw [decide_eq_false hv] | rw [hv] | skip
 refine lin_wg (D' := 15) 3 Y rfl rfl rfl (p_fieldAddr0 (off := 0) underlying51 rfl rfl sizeOf3 Y) ?_
 refine lin_rg (D' := 31) 4 Y rfl rfl rfl Wh (p_load isAgg3 Y (by rfl)) ?_
 refine lin_wg (D' := 63) 5 Y rfl rfl rfl (p_move Y) ?_
 refine lin_wg (D' := 127) 6 Y rfl rfl rfl (p_nilChk Y rfl) ?_
 refine lin_wg (D' := 255) 7 Y rfl rfl rfl (p_fieldAddr0 (off := 1) underlying71 rfl rfl sizeOf3 Y) ?_
 refine lin_rg (D' := 511) 8 Y rfl rfl rfl Wh (p_load isAgg3 Y (by rfl)) ?_
 (refine lin_wg (D' := 1023) 9 Y rfl rfl rfl (p_add Y Y (IntWalk.i64_in _ ?_)) ?_; (focus (omega)))
 refine lin_wg (D' := 2047) 10 Y rfl rfl rfl (p_neq Y Y) ?_
 refine Zi 4095 11 rfl (p_pick_f Y Y) <| lin_nil ?_
 refine Zn [0, 3, 32] ?_
 refine Zx ?_
 refine at_if Y (fun hpos => ?_) (fun hpos => ?_)
 ·
  refine Zq <| Zg <| Za Y <| Z0 <| Zx <| at_ret <| Zt ?_
  refine nx_end1 rfl results21 Y (by exact .inr ⟨fun h => hpos h.pos, rfl, rfl⟩)
 refine at_skip <| Zx <| Zq ?_
 have hok := Classical.not_not.1 hv
 have hpo := Classical.not_not.1 hpos
 have hcl := hok.len
 have hasc := asc_of hok.ord
 refine Zg <| Zm Y <| Zp Y rfl <| Zh 0 underlying71 rfl rfl sizeOf38 Y <| Zl isAgg38 Y ?_
 refine Zv (p_len_slice underlying38 Y) <| Za Y <| Z0 <| Zx <| Zq <| Zq <| Zg <| Za Y <| Z0 <| Zx <| at_block <| Zb [6, 7, 0, 3] ?_
 refine at_loopB (e0 := [(6, _), (7, _)]) (H0 := _) (n := _) (fun m e H => ∃ (i : Nat), m = cs.length - i ∧ (i ≤ cs.length ∧ (∀ c ∈ cs.take i, fitC rs c)) ∧ e = [(6, .int .i64 (sizeL rs (cs.take i))), (7, .int .i64 (i : Int))] ∧ H = []) (by exact ⟨0, rfl, ⟨Nat.zero_le _, by simp⟩, rfl, rfl⟩) Wp ?_
 rintro _ _ _ ⟨i, rfl, ⟨hi, hfit⟩, rfl, rfl⟩
 have hsl := sizeL_le rs cs i
 refine Zq <| Zq <| Zg <| Zm Y <| Zh 1 underlying51 rfl rfl sizeOf49 Y <| Zl isAgg49 Y ?_
 refine Zv (p_len_slice underlying49 Y) <| Zv (p_lss_nat Y Y) <| Z0 <| Zx ?_
 refine at_if Y (fun hlt => ?_) (fun hlt => ?_)
 ·
  refine at_skip <| Zx <| Zq <| at_block <| Zq ?_
  obtain ⟨x, hx⟩ : ∃ x, cs[i]? = some x := ⟨_, List.getElem?_eq_getElem hlt⟩
  obtain ⟨g, off, cur, T, zz, rfl, hm, hsz, hex⟩ := hg i x hx
  refine Zg <| Zh 1 underlying51 rfl rfl sizeOf49 Y <| Zl isAgg49 Y ?_
  refine Zm Y ?_
  (refine op_v (p_indexAddr_nat underlying49 sizeOf55 Y Y ?_) ?_; (focus (omega)))
  refine op_rm (cs := [(g, .cells cur T zz)]) (by simp [hm]) (p_load_agg (cs := #[.int .i64 x.t, .int .i64 x.k, .bool x.had, .int .i64 x.o.a, .int .i64 x.o.b, .int .i64 x.o.c, .bool x.has, .int .i64 x.n.a, .int .i64 x.n.b, .int .i64 x.n.c]) isAgg55 sizeOf55 Y (by omega) hex) rfl rfl ?_
  refine Ze (w_alloc zeroValue55 (cs := #[_, _, _, _, _, _, _, _, _, _]) rfl) ?_
  rintro _ _ ⟨cb, rfl, rfl⟩
  refine Xe (w_store_agg sizeOf55 Y Y (by (simp [Value.oneCell']; done)) Wu (by exact (rfl : _ = (#[.int .i64 x.t, .int .i64 x.k, .bool x.had, .int .i64 x.o.a, .int .i64 x.o.b, .int .i64 x.o.c, .bool x.has, .int .i64 x.n.a, .int .i64 x.n.b, .int .i64 x.n.c] : Array Value))) (by first | rfl | (simp; done)) (by exact Nat.le_refl _) (by exact free_zero _)) ?_
  refine Z0 <| Zx <| Zq <| Zg <| Zm Y <| Zh 0 underlying55 rfl rfl sizeOf3 Y <| Zl isAgg3 Y ?_
  refine Zh 1 underlying55 rfl rfl sizeOf3 Y <| Zl isAgg3 Y ?_
  refine Xr [_, _, _] Y call20 Y rfl (r4_get sp qv capv p x.t x.k rs sv hRI (by omega) hs) ?_
  obtain ⟨gr, hgr⟩ : ∃ gr, gr = getL rs x.t x.k := ⟨_, rfl⟩
  rw [← hgr]
  refine Zm Y <| Zd Y rfl <| Zd Y rfl <| Ze (w_alloc zeroValue67 (cs := #[_, _, _, _, _]) rfl) ?_
  rintro _ _ ⟨xb, rfl, rfl⟩
  refine Xe (w_store_agg sizeOf67 Y Y (by (simp [Value.oneCell']; done)) Wu (by exact (rfl : _ = (#[.int .i64 gr.1.t, .int .i64 gr.1.k, .int .i64 gr.1.v.a, .int .i64 gr.1.v.b, .int .i64 gr.1.v.c] : Array Value))) (by first | rfl | (simp; done)) (by exact Nat.le_refl _) (by exact free_zero _)) ?_
  refine Za Y <| Z0 <| Zn [0, 3, 6, 7, 8, 9, 10] ?_
  refine Zx <| Zq <| Zq <| Zg <| Zm Y <| Zh 2 underlying55 rfl rfl sizeOf4 Y <| Zl isAgg4 Y ?_
  refine Zv (p_neq_bool underlying4 Y Y) <| Zm Y ?_
  refine ops_split (t := 63) Y rfl (fun hd1 => ?_) (fun hd1 => ?_)
  ·
   refine op_skip Y rfl <| op_skip Y rfl <| op_skip Y rfl <| op_skip Y rfl <| op_skip Y rfl <| op_skip Y rfl <| op_skip Y rfl <| op_skip Y rfl <| Zv (p_pick_t Y Y) <| Z0 <| Zn [0, 3, 6, 7, 8, 72] ?_
   refine Zx <| at_then Y <| Zq <| Zg <| Za Y <| Z0 <| Zx <| at_ret <| Zt <| nx_block_ret <| Zt <| Zt <| nx_block_ret <| Zt ?_
   refine nx_end1 rfl results21 Y (by exact .inr ⟨fun h => by have h9 := (h.fit x (List.mem_of_getElem? hx)).1; rw [← hgr] at h9; exact hd1 h9, rfl, rfl⟩)
  refine Zf Y Y <| Zf Y Y ?_
  refine ops_split_bool (t := 65) Y rfl (fun hd2 => ?_) (fun hd2 => ?_)
  ·
   refine Yf 2 underlying67 rfl rfl sizeOf53 Y <| op_rg Y Wh (p_load_agg (cs := #[_, _, _]) isAgg53 sizeOf53 Y (by exact Nat.le_refl _) (by rfl)) rfl rfl ?_
   refine Yf 3 underlying55 rfl rfl sizeOf53 Y <| op_rg Y Wh (p_load_agg (cs := #[_, _, _]) isAgg53 sizeOf53 Y (by (simp; done)) (by rfl)) rfl rfl ?_
   refine Yg (p_neq_arr3 (by kernel_rfl) underlying53 underlying3 isAgg3 sizeOf3 Y Y) ?_
   refine Yg (p_pick_t Y Y) <| Zv (p_pick_f Y Y) <| Z0 <| Zn [0, 3, 6, 7, 8, 72] ?_
   refine Zx ?_
   refine at_if Y (fun hd3 => ?_) (fun hd3 => ?_)
   ·
    refine Zq <| Zg <| Za Y <| Z0 <| Zx <| at_ret <| Zt <| nx_block_ret <| Zt <| Zt <| nx_block_ret <| Zt ?_
    refine nx_end1 rfl results21 Y (by exact .inr ⟨fun h => by have h9 := (h.fit x (List.mem_of_getElem? hx)).2; rw [← hgr] at h9; exact hd3 (h9 hd2), rfl, rfl⟩)
   refine at_skip <| Zx <| Zq <| Zq ?_
   have hfx : fitC rs x := by
     unfold fitC
     rw [← hgr]
     refine ⟨by simpa using hd1, fun h => ?_⟩
     exact Classical.not_not.1 hd3
   refine Zg <| Zh 2 underlying55 rfl rfl sizeOf4 Y <| Zl isAgg4 Y ?_
   refine Z0 <| Zx ?_
   refine at_if_bool Y (fun hh1 => ?_) (fun hh1 => ?_)
   ·
    refine Zg <| Zm Y ?_
    (refine op_v (p_sub Y Y (IntWalk.i64_in _ ?_)) ?_; (focus (omega)))
    refine Za Y <| Z0 <| Zx <| Zq <| Zg <| Zh 6 underlying55 rfl rfl sizeOf4 Y <| Zl isAgg4 Y ?_
    refine Z0 <| Zx ?_
    refine at_if_bool Y (fun hh2 => ?_) (fun hh2 => ?_)
    ·
     refine Zg <| Zm Y <| Yi Y Y <| Za Y <| Z0 <| nx_block_normal <| Zx <| Zg <| Zm Y <| Ya (n := 1) Y Y <| Za Y <| Z0 <| Zn [6, 7, 0, 3] ?_
     refine nx_againB (e' := [(6, _), (7, _)]) (m := _) (H' := _) (by exact ⟨i + 1, rfl, ⟨by omega, fit_more hfit hx hfx⟩, by rw [sz_tt hx hh1 hh2], rfl⟩)
    refine at_skip <| nx_block_normal <| Zx <| Zg <| Zm Y <| Ya (n := 1) Y Y <| Za Y <| Z0 <| Zn [6, 7, 0, 3] ?_
    refine nx_againB (e' := [(6, _), (7, _)]) (m := _) (H' := _) (by exact ⟨i + 1, rfl, ⟨by omega, fit_more hfit hx hfx⟩, by rw [sz_tf hx hh1 hh2], rfl⟩)
   refine at_skip <| Zx <| Zq <| Zg <| Zh 6 underlying55 rfl rfl sizeOf4 Y <| Zl isAgg4 Y ?_
   refine Z0 <| Zx ?_
   refine at_if_bool Y (fun hh2 => ?_) (fun hh2 => ?_)
   ·
    refine Zg <| Zm Y <| Yi Y Y <| Za Y <| Z0 <| nx_block_normal <| Zx <| Zg <| Zm Y <| Ya (n := 1) Y Y <| Za Y <| Z0 <| Zn [6, 7, 0, 3] ?_
    refine nx_againB (e' := [(6, _), (7, _)]) (m := _) (H' := _) (by exact ⟨i + 1, rfl, ⟨by omega, fit_more hfit hx hfx⟩, by rw [sz_ft hx hh1 hh2], rfl⟩)
   refine at_skip <| nx_block_normal <| Zx <| Zg <| Zm Y <| Ya (n := 1) Y Y <| Za Y <| Z0 <| Zn [6, 7, 0, 3] ?_
   refine nx_againB (e' := [(6, _), (7, _)]) (m := _) (H' := _) (by exact ⟨i + 1, rfl, ⟨by omega, fit_more hfit hx hfx⟩, by rw [sz_ff hx hh1 hh2], rfl⟩)
  refine op_skip Y rfl <| op_skip Y rfl <| op_skip Y rfl <| op_skip Y rfl <| op_skip Y rfl <| Yg (p_pick_f Y Y) <| Zv (p_pick_f Y Y) <| Z0 <| Zn [0, 3, 6, 7, 8, 72] ?_
  refine Zx <| at_else Y <| at_skip <| Zx <| Zq <| Zq ?_
  have hfx : fitC rs x := by
    unfold fitC
    rw [← hgr]
    refine ⟨by simpa using hd1, fun h => ?_⟩
    (rw [h] at hd2; cases hd2)
  refine Zg <| Zh 2 underlying55 rfl rfl sizeOf4 Y <| Zl isAgg4 Y ?_
  refine Z0 <| Zx ?_
  refine at_if_bool Y (fun hh1 => ?_) (fun hh1 => ?_)
  ·
   refine Zg <| Zm Y ?_
   (refine op_v (p_sub Y Y (IntWalk.i64_in _ ?_)) ?_; (focus (omega)))
   refine Za Y <| Z0 <| Zx <| Zq <| Zg <| Zh 6 underlying55 rfl rfl sizeOf4 Y <| Zl isAgg4 Y ?_
   refine Z0 <| Zx ?_
   refine at_if_bool Y (fun hh2 => ?_) (fun hh2 => ?_)
   ·
    refine Zg <| Zm Y <| Yi Y Y <| Za Y <| Z0 <| nx_block_normal <| Zx <| Zg <| Zm Y <| Ya (n := 1) Y Y <| Za Y <| Z0 <| Zn [6, 7, 0, 3] ?_
    refine nx_againB (e' := [(6, _), (7, _)]) (m := _) (H' := _) (by exact ⟨i + 1, rfl, ⟨by omega, fit_more hfit hx hfx⟩, by rw [sz_tt hx hh1 hh2], rfl⟩)
   refine at_skip <| nx_block_normal <| Zx <| Zg <| Zm Y <| Ya (n := 1) Y Y <| Za Y <| Z0 <| Zn [6, 7, 0, 3] ?_
   refine nx_againB (e' := [(6, _), (7, _)]) (m := _) (H' := _) (by exact ⟨i + 1, rfl, ⟨by omega, fit_more hfit hx hfx⟩, by rw [sz_tf hx hh1 hh2], rfl⟩)
  refine at_skip <| Zx <| Zq <| Zg <| Zh 6 underlying55 rfl rfl sizeOf4 Y <| Zl isAgg4 Y ?_
  refine Z0 <| Zx ?_
  refine at_if_bool Y (fun hh2 => ?_) (fun hh2 => ?_)
  ·
   refine Zg <| Zm Y <| Yi Y Y <| Za Y <| Z0 <| nx_block_normal <| Zx <| Zg <| Zm Y <| Ya (n := 1) Y Y <| Za Y <| Z0 <| Zn [6, 7, 0, 3] ?_
   refine nx_againB (e' := [(6, _), (7, _)]) (m := _) (H' := _) (by exact ⟨i + 1, rfl, ⟨by omega, fit_more hfit hx hfx⟩, by rw [sz_ft hx hh1 hh2], rfl⟩)
  refine at_skip <| nx_block_normal <| Zx <| Zg <| Zm Y <| Ya (n := 1) Y Y <| Za Y <| Z0 <| Zn [6, 7, 0, 3] ?_
  refine nx_againB (e' := [(6, _), (7, _)]) (m := _) (H' := _) (by exact ⟨i + 1, rfl, ⟨by omega, fit_more hfit hx hfx⟩, by rw [sz_ff hx hh1 hh2], rfl⟩)
 have ei : i = cs.length := by omega
 subst ei
 rw [List.take_length] at hfit hsl ⊢
 refine at_exit <| Zt <| Zt <| nx_block_exit <| Zx <| Zq <| Zq <| Zg <| Zm Y <| Zv (p_gtr Y Y) <| Z0 <| Zx ?_
 refine at_if Y (fun hbig => ?_) (fun hbig => ?_)
 ·
  refine Zq <| Zg <| Za Y <| Z0 <| Zx <| at_ret <| Zt ?_
  refine nx_end1 rfl results21 Y (by exact .inr ⟨fun h => by have h9 := h.size; omega, rfl, rfl⟩)
 refine at_skip <| Zx <| Zq <| Zq <| Zg <| Za Y <| Z0 <| Zx <| at_block <| Zb [11, 0, 3] ?_
 refine at_loopB (e0 := [(11, _)]) (H0 := _) (n := _) (fun m e H => ∃ (i : Nat) (w : Value) (sw : List Chunk), m = cs.length - i ∧ (i ≤ cs.length ∧ RowS 5 67 w (putAllR rs (cs.take i)).length (rowCells (putAllR rs (cs.take i))) sw) ∧ e = [(11, .int .i64 (i : Int))] ∧ H = [[(sp, .cells #[w, .int .i64 p] 71 (0, 0))], sw]) (by exact ⟨0, _, sv, rfl, ⟨Nat.zero_le _, hrow⟩, rfl, rfl⟩) Wp ?_
 rintro _ _ _ ⟨i, w, sw, rfl, ⟨hi, hrw⟩, rfl, rfl⟩
 obtain ⟨hsq, hfq⟩ := fold_inv hs hasc hfit i hi
 have hlq := len_putAll hs hasc hfit i hi
 have hsl := sizeL_le rs cs i
 obtain ⟨qs, hqs⟩ : ∃ qs, qs = putAllR rs (cs.take i) := ⟨_, rfl⟩
 rw [← hqs] at hrw hsq hlq hfq
 obtain ⟨qw, capw, rfl⟩ := hrw.form
 have hcw := rowS_le hrw
 have hRW := rowsIn_of hrw (by omega)
 refine Zq <| Zq <| Zg <| Zm Y <| Zh 1 underlying51 rfl rfl sizeOf49 Y <| Zl isAgg49 Y ?_
 refine Zv (p_len_slice underlying49 Y) <| Zv (p_lss_nat Y Y) <| Z0 <| Zx ?_
 refine at_if Y (fun hlt => ?_) (fun hlt => ?_)
 ·
  refine at_skip <| Zx <| Zq <| at_block <| Zq ?_
  obtain ⟨x, hx⟩ : ∃ x, cs[i]? = some x := ⟨_, List.getElem?_eq_getElem hlt⟩
  obtain ⟨g, off, cur, T, zz, rfl, hm, hsz, hex⟩ := hg i x hx
  have hfx := hfq i x (Nat.le_refl _) hx
  have hpl := placeL_le qs x.t x.k
  have hput : putL qs x = qs.take (placeL qs x.t x.k) ++ newC x ++ (qs.drop (placeL qs x.t x.k)).drop (if x.had then 1 else 0) := rfl
  obtain ⟨k, hk⟩ : ∃ k, k = placeL qs x.t x.k := ⟨_, rfl⟩
  have hkt : x.had = true → k < qs.length := fun h => by
    obtain ⟨r, _, _, h9, _⟩ := get_some (by rw [hfx.1, h] : (getL qs x.t x.k).2 = true)
    rw [← hk] at h9
    exact (List.getElem?_eq_some_iff.1 h9).1
  rw [← hk] at hpl hput
  refine Zg <| Zh 1 underlying51 rfl rfl sizeOf49 Y <| Zl isAgg49 Y ?_
  refine Zm Y ?_
  (refine op_v (p_indexAddr_nat underlying49 sizeOf55 Y Y ?_) ?_; (focus (omega)))
  refine op_rm (cs := [(g, .cells cur T zz)]) (by simp [hm]) (p_load_agg (cs := #[.int .i64 x.t, .int .i64 x.k, .bool x.had, .int .i64 x.o.a, .int .i64 x.o.b, .int .i64 x.o.c, .bool x.has, .int .i64 x.n.a, .int .i64 x.n.b, .int .i64 x.n.c]) isAgg55 sizeOf55 Y (by omega) hex) rfl rfl ?_
  refine Ze (w_alloc zeroValue55 (cs := #[_, _, _, _, _, _, _, _, _, _]) rfl) ?_
  rintro _ _ ⟨cb, rfl, rfl⟩
  refine Xe (w_store_agg sizeOf55 Y Y (by (simp [Value.oneCell']; done)) Wu (by exact (rfl : _ = (#[.int .i64 x.t, .int .i64 x.k, .bool x.had, .int .i64 x.o.a, .int .i64 x.o.b, .int .i64 x.o.c, .bool x.has, .int .i64 x.n.a, .int .i64 x.n.b, .int .i64 x.n.c] : Array Value))) (by first | rfl | (simp; done)) (by exact Nat.le_refl _) (by exact free_zero _)) ?_
  refine Z0 <| Zx <| Zq <| Zg <| Zm Y <| Zh 0 underlying55 rfl rfl sizeOf3 Y <| Zl isAgg3 Y ?_
  refine Zh 1 underlying55 rfl rfl sizeOf3 Y <| Zl isAgg3 Y ?_
  refine Xr [_, _, _] Y call45 Y rfl (r4_place sp qw capw p x.t x.k qs sw hRW (by omega) hsq) ?_
  rw [← hk]
  refine Za Y <| Z0 <| Zn [0, 3, 11, 12, 13] ?_
  refine Zx <| Zq <| Zg <| Zm Y <| Zp Y rfl <| Zh 0 underlying71 rfl rfl sizeOf38 Y <| Zl isAgg38 Y ?_
  refine Zm Y ?_
  (refine op_v (p_slice_slice_from underlying38 sizeOf67 Y Y ?_) ?_; (focus (omega)))
  refine Za Y <| Z0 <| Zx <| Zq <| Zq <| Zg <| Zh 2 underlying55 rfl rfl sizeOf4 Y <| Zl isAgg4 Y ?_
  refine Z0 <| Zx ?_
  refine at_if_bool Y (fun hh1 => ?_) (fun hh1 => ?_)
  ·
   have hkl := hkt hh1
   refine Zg <| Zm Y ?_
   (refine op_v (p_slice_slice_from (l := 1) underlying38 sizeOf67 Y Y ?_) ?_; (focus (omega)))
   refine Za Y <| Z0 <| Zx <| Zq <| Zg <| Za Y <| Z0 <| Zn [0, 3, 11, 12, 13, 14, 15] ?_
   refine Zx <| Zq <| Zg <| Zo Wh (p_load_agg (cs := #[_, _, _, _, _, _, _, _, _, _]) isAgg55 sizeOf55 Y (by exact Nat.le_refl _) (by rfl)) ?_
   refine Xr [_] Y call47 Y rfl (r3_after x) ?_
   refine Zm Y <| Zd Y rfl <| Zd Y rfl <| Ze (w_alloc zeroValue67 (cs := #[_, _, _, _, _]) rfl) ?_
   rintro _ _ ⟨xb, rfl, rfl⟩
   refine Xe (w_store_agg sizeOf67 Y Y (by (simp [Value.oneCell']; done)) Wu (by exact (rfl : _ = (#[.int .i64 x.after.t, .int .i64 x.after.k, .int .i64 x.after.v.a, .int .i64 x.after.v.b, .int .i64 x.after.v.c] : Array Value))) (by first | rfl | (simp; done)) (by exact Nat.le_refl _) (by exact free_zero _)) ?_
   refine Za Y <| Z0 <| Zx <| Zq <| Zq <| Zg <| Zm Y <| Z0 <| Zx ?_
   refine at_if_bool Y (fun hh2 => ?_) (fun hh2 => ?_)
   ·
    refine Zg <| Zo Wh (p_load_agg (cs := #[_, _, _, _, _]) isAgg67 sizeOf67 Y (by exact Nat.le_refl _) (by rfl)) ?_
    refine Ze (w_buildSlice (vs := [_]) (cs := [_, _, _, _, _]) underlying38 sizeOf67 zeroValue67 Y rfl rfl rfl rfl rfl) ?_
    rintro _ _ ⟨gb, rfl, rfl⟩
    refine Za Y <| Z0 <| Zx <| Zq <| Zg <| Za Y <| Z0 <| Zn [0, 3, 11, 13, 14, 15, 18] ?_
    refine Zx <| Zq <| at_nil ?_
    refine Zg <| Zm Y <| Zm Y <| Zp Y rfl <| Zh 0 underlying71 rfl rfl sizeOf38 Y <| Zl isAgg38 Y ?_
    refine Zm Y ?_
    (refine op_v (p_slice_slice_to underlying38 sizeOf67 Y Y ?_) ?_; (focus (omega)))
    refine Ze (w_append_subS (by_ := 40) (sz := 5) underlying38 (rfl : Tryz.prog.info? 67 = some Tryz.t67) rfl rfl rfl rfl Y (rowS_nil 5 _) Y (subS_take hrw k _ hpl) Wo Wo (by exact fun u hu => rowCells_one qs u (List.mem_of_mem_take hu)) (by omega) (by omega)) ?_
    rintro _ _ ⟨sa, hra, rfl⟩
    obtain ⟨ga, ca, rfl⟩ := hra.form
    refine Zm Y ?_
    refine Ze (w_append_subS (by_ := 40) (sz := 5) underlying38 (rfl : Tryz.prog.info? 67 = some Tryz.t67) rfl rfl rfl rfl Y (hra) Y (subS_new 5 gb 1 1 67 (0, 0) (rowCells [x.after]) rfl) Wo Wo (by exact rowCells_one _) (by omega) (by omega)) ?_
    rintro _ _ ⟨sb, hrb, rfl⟩
    obtain ⟨gb, cb, rfl⟩ := hrb.form
    refine Zm Y ?_
    refine Ze (w_append_subS (by_ := 40) (sz := 5) underlying38 (rfl : Tryz.prog.info? 67 = some Tryz.t67) rfl rfl rfl rfl Y (hrb) Y (subS_cut (subS_from hrw k (qs.length - k) (capw - k) (by omega)) 1 (qs.length - k - 1) _ (by omega) (by omega)) Wo Wo (by exact fun u hu => rowCells_one qs u (List.mem_of_mem_drop (List.mem_of_mem_drop hu))) (by omega) (by omega)) ?_
    rintro _ _ ⟨sc, hrc, rfl⟩
    have hnew := rowS_eq hrc (n' := (putL qs x).length) (xs' := rowCells (putL qs x)) (by rw [hput, newC_t hh2, if_pos hh1, List.length_append, List.length_append, List.length_take, List.length_drop, List.length_drop]; simp only [List.length_cons, List.length_nil]; omega) (by rw [hput, newC_t hh2, if_pos hh1, rowCells_app, rowCells_app, ← rowCells_take, ← rowCells_drop (qs.drop k) 1, ← rowCells_drop]; rw [after_t hh2]; rfl)
    obtain ⟨gc, cc, rfl⟩ := hrc.form
    refine Za Y <| Z0 <| Zn [0, 3, 11, 18] ?_
    refine Zx <| Zg <| Zm Y <| Zm Y <| Zp Y rfl <| Zh 0 underlying71 rfl rfl sizeOf38 Y <| Xe (Zs sizeOf38 Y Y rfl) ?_
    refine Z0 <| nx_block_normal <| Zx <| Zg <| Zm Y <| Ya (n := 1) Y Y <| Za Y <| Z0 <| Zn [11, 0, 3] ?_
    refine nx_againB (e' := [(11, _)]) (m := _) (H' := _) (by exact ⟨i + 1, _, _, rfl, ⟨by omega, by rw [putAllR_next rs cs i x hx, ← hqs]; exact hnew⟩, rfl, rfl⟩)
   refine at_nil ?_
   refine at_skip <| Zx <| Zq <| Zg <| Za Y <| Z0 <| Zx <| Zq <| at_nil ?_
   refine Zg <| Zm Y <| Zm Y <| Zp Y rfl <| Zh 0 underlying71 rfl rfl sizeOf38 Y <| Zl isAgg38 Y ?_
   refine Zm Y ?_
   (refine op_v (p_slice_slice_to underlying38 sizeOf67 Y Y ?_) ?_; (focus (omega)))
   refine Ze (w_append_subS (by_ := 40) (sz := 5) underlying38 (rfl : Tryz.prog.info? 67 = some Tryz.t67) rfl rfl rfl rfl Y (rowS_nil 5 _) Y (subS_take hrw k _ hpl) Wo Wo (by exact fun u hu => rowCells_one qs u (List.mem_of_mem_take hu)) (by omega) (by omega)) ?_
   rintro _ _ ⟨sa, hra, rfl⟩
   obtain ⟨ga, ca, rfl⟩ := hra.form
   refine Zm Y ?_
   refine Ze (w_append_subS (by_ := 40) (sz := 5) underlying38 (rfl : Tryz.prog.info? 67 = some Tryz.t67) rfl rfl rfl rfl Y (hra) Y (subS_none 5 none 0) Wo Wo (by simp) (by omega) (by omega)) ?_
   rintro _ _ ⟨sb, hrb, rfl⟩
   obtain ⟨gb, cb, rfl⟩ := hrb.form
   refine Zm Y ?_
   refine Ze (w_append_subS (by_ := 40) (sz := 5) underlying38 (rfl : Tryz.prog.info? 67 = some Tryz.t67) rfl rfl rfl rfl Y (hrb) Y (subS_cut (subS_from hrw k (qs.length - k) (capw - k) (by omega)) 1 (qs.length - k - 1) _ (by omega) (by omega)) Wo Wo (by exact fun u hu => rowCells_one qs u (List.mem_of_mem_drop (List.mem_of_mem_drop hu))) (by omega) (by omega)) ?_
   rintro _ _ ⟨sc, hrc, rfl⟩
   have hnew := rowS_eq hrc (n' := (putL qs x).length) (xs' := rowCells (putL qs x)) (by rw [hput, newC_f hh2, if_pos hh1, List.length_append, List.length_append, List.length_take, List.length_drop, List.length_drop]; simp only [List.length_cons, List.length_nil]; omega) (by rw [hput, newC_f hh2, if_pos hh1, rowCells_app, rowCells_app, ← rowCells_take, ← rowCells_drop (qs.drop k) 1, ← rowCells_drop]; rfl)
   obtain ⟨gc, cc, rfl⟩ := hrc.form
   refine Za Y <| Z0 <| Zn [0, 3, 11, 18] ?_
   refine Zx <| Zg <| Zm Y <| Zm Y <| Zp Y rfl <| Zh 0 underlying71 rfl rfl sizeOf38 Y <| Xe (Zs sizeOf38 Y Y rfl) ?_
   refine Z0 <| nx_block_normal <| Zx <| Zg <| Zm Y <| Ya (n := 1) Y Y <| Za Y <| Z0 <| Zn [11, 0, 3] ?_
   refine nx_againB (e' := [(11, _)]) (m := _) (H' := _) (by exact ⟨i + 1, _, _, rfl, ⟨by omega, by rw [putAllR_next rs cs i x hx, ← hqs]; exact hnew⟩, rfl, rfl⟩)
  refine at_skip <| Zx <| Zq <| Zg <| Za Y <| Z0 <| Zx <| Zq <| Zg <| Zo Wh (p_load_agg (cs := #[_, _, _, _, _, _, _, _, _, _]) isAgg55 sizeOf55 Y (by exact Nat.le_refl _) (by rfl)) ?_
  refine Xr [_] Y call47 Y rfl (r3_after x) ?_
  refine Zm Y <| Zd Y rfl <| Zd Y rfl <| Ze (w_alloc zeroValue67 (cs := #[_, _, _, _, _]) rfl) ?_
  rintro _ _ ⟨xb, rfl, rfl⟩
  refine Xe (w_store_agg sizeOf67 Y Y (by (simp [Value.oneCell']; done)) Wu (by exact (rfl : _ = (#[.int .i64 x.after.t, .int .i64 x.after.k, .int .i64 x.after.v.a, .int .i64 x.after.v.b, .int .i64 x.after.v.c] : Array Value))) (by first | rfl | (simp; done)) (by exact Nat.le_refl _) (by exact free_zero _)) ?_
  refine Za Y <| Z0 <| Zn [0, 3, 11, 13, 14, 15, 16, 17] ?_
  refine Zx <| Zq <| Zq <| Zg <| Zm Y <| Z0 <| Zx ?_
  refine at_if_bool Y (fun hh2 => ?_) (fun hh2 => ?_)
  ·
   refine Zg <| Zo Wh (p_load_agg (cs := #[_, _, _, _, _]) isAgg67 sizeOf67 Y (by exact Nat.le_refl _) (by rfl)) ?_
   refine Ze (w_buildSlice (vs := [_]) (cs := [_, _, _, _, _]) underlying38 sizeOf67 zeroValue67 Y rfl rfl rfl rfl rfl) ?_
   rintro _ _ ⟨gb, rfl, rfl⟩
   refine Za Y <| Z0 <| Zx <| Zq <| Zg <| Za Y <| Z0 <| Zx <| Zq <| at_nil ?_
   refine Zg <| Zm Y <| Zm Y <| Zp Y rfl <| Zh 0 underlying71 rfl rfl sizeOf38 Y <| Zl isAgg38 Y ?_
   refine Zm Y ?_
   (refine op_v (p_slice_slice_to underlying38 sizeOf67 Y Y ?_) ?_; (focus (omega)))
   refine Ze (w_append_subS (by_ := 40) (sz := 5) underlying38 (rfl : Tryz.prog.info? 67 = some Tryz.t67) rfl rfl rfl rfl Y (rowS_nil 5 _) Y (subS_take hrw k _ hpl) Wo Wo (by exact fun u hu => rowCells_one qs u (List.mem_of_mem_take hu)) (by omega) (by omega)) ?_
   rintro _ _ ⟨sa, hra, rfl⟩
   obtain ⟨ga, ca, rfl⟩ := hra.form
   refine Zm Y ?_
   refine Ze (w_append_subS (by_ := 40) (sz := 5) underlying38 (rfl : Tryz.prog.info? 67 = some Tryz.t67) rfl rfl rfl rfl Y (hra) Y (subS_new 5 gb 1 1 67 (0, 0) (rowCells [x.after]) rfl) Wo Wo (by exact rowCells_one _) (by omega) (by omega)) ?_
   rintro _ _ ⟨sb, hrb, rfl⟩
   obtain ⟨gb, cb, rfl⟩ := hrb.form
   refine Zm Y ?_
   refine Ze (w_append_subS (by_ := 40) (sz := 5) underlying38 (rfl : Tryz.prog.info? 67 = some Tryz.t67) rfl rfl rfl rfl Y (hrb) Y (subS_from hrw k (qs.length - k) _ (by omega)) Wo Wo (by exact fun u hu => rowCells_one qs u (List.mem_of_mem_drop hu)) (by omega) (by omega)) ?_
   rintro _ _ ⟨sc, hrc, rfl⟩
   have hnew := rowS_eq hrc (n' := (putL qs x).length) (xs' := rowCells (putL qs x)) (by rw [hput, newC_t hh2, if_neg (by rw [hh1]; decide), List.length_append, List.length_append, List.length_take, List.length_drop, List.length_drop]; simp only [List.length_cons, List.length_nil]; omega) (by rw [hput, newC_t hh2, if_neg (by rw [hh1]; decide), rowCells_app, rowCells_app, ← rowCells_take, ← rowCells_drop (qs.drop k) 0, ← rowCells_drop, Nat.zero_mul, List.drop_zero]; rw [after_t hh2]; rfl)
   obtain ⟨gc, cc, rfl⟩ := hrc.form
   refine Za Y <| Z0 <| Zn [0, 3, 11, 18] ?_
   refine Zx <| Zg <| Zm Y <| Zm Y <| Zp Y rfl <| Zh 0 underlying71 rfl rfl sizeOf38 Y <| Xe (Zs sizeOf38 Y Y rfl) ?_
   refine Z0 <| nx_block_normal <| Zx <| Zg <| Zm Y <| Ya (n := 1) Y Y <| Za Y <| Z0 <| Zn [11, 0, 3] ?_
   refine nx_againB (e' := [(11, _)]) (m := _) (H' := _) (by exact ⟨i + 1, _, _, rfl, ⟨by omega, by rw [putAllR_next rs cs i x hx, ← hqs]; exact hnew⟩, rfl, rfl⟩)
  refine at_nil ?_
  refine at_skip <| Zx <| Zq <| Zg <| Za Y <| Z0 <| Zx <| Zq <| at_nil ?_
  refine Zg <| Zm Y <| Zm Y <| Zp Y rfl <| Zh 0 underlying71 rfl rfl sizeOf38 Y <| Zl isAgg38 Y ?_
  refine Zm Y ?_
  (refine op_v (p_slice_slice_to underlying38 sizeOf67 Y Y ?_) ?_; (focus (omega)))
  refine Ze (w_append_subS (by_ := 40) (sz := 5) underlying38 (rfl : Tryz.prog.info? 67 = some Tryz.t67) rfl rfl rfl rfl Y (rowS_nil 5 _) Y (subS_take hrw k _ hpl) Wo Wo (by exact fun u hu => rowCells_one qs u (List.mem_of_mem_take hu)) (by omega) (by omega)) ?_
  rintro _ _ ⟨sa, hra, rfl⟩
  obtain ⟨ga, ca, rfl⟩ := hra.form
  refine Zm Y ?_
  refine Ze (w_append_subS (by_ := 40) (sz := 5) underlying38 (rfl : Tryz.prog.info? 67 = some Tryz.t67) rfl rfl rfl rfl Y (hra) Y (subS_none 5 none 0) Wo Wo (by simp) (by omega) (by omega)) ?_
  rintro _ _ ⟨sb, hrb, rfl⟩
  obtain ⟨gb, cb, rfl⟩ := hrb.form
  refine Zm Y ?_
  refine Ze (w_append_subS (by_ := 40) (sz := 5) underlying38 (rfl : Tryz.prog.info? 67 = some Tryz.t67) rfl rfl rfl rfl Y (hrb) Y (subS_from hrw k (qs.length - k) _ (by omega)) Wo Wo (by exact fun u hu => rowCells_one qs u (List.mem_of_mem_drop hu)) (by omega) (by omega)) ?_
  rintro _ _ ⟨sc, hrc, rfl⟩
  have hnew := rowS_eq hrc (n' := (putL qs x).length) (xs' := rowCells (putL qs x)) (by rw [hput, newC_f hh2, if_neg (by rw [hh1]; decide), List.length_append, List.length_append, List.length_take, List.length_drop, List.length_drop]; simp only [List.length_cons, List.length_nil]; omega) (by rw [hput, newC_f hh2, if_neg (by rw [hh1]; decide), rowCells_app, rowCells_app, ← rowCells_take, ← rowCells_drop (qs.drop k) 0, ← rowCells_drop, Nat.zero_mul, List.drop_zero]; rfl)
  obtain ⟨gc, cc, rfl⟩ := hrc.form
  refine Za Y <| Z0 <| Zn [0, 3, 11, 18] ?_
  refine Zx <| Zg <| Zm Y <| Zm Y <| Zp Y rfl <| Zh 0 underlying71 rfl rfl sizeOf38 Y <| Xe (Zs sizeOf38 Y Y rfl) ?_
  refine Z0 <| nx_block_normal <| Zx <| Zg <| Zm Y <| Ya (n := 1) Y Y <| Za Y <| Z0 <| Zn [11, 0, 3] ?_
  refine nx_againB (e' := [(11, _)]) (m := _) (H' := _) (by exact ⟨i + 1, _, _, rfl, ⟨by omega, by rw [putAllR_next rs cs i x hx, ← hqs]; exact hnew⟩, rfl, rfl⟩)
 have ei : i = cs.length := by omega
 subst ei
 rw [List.take_length] at hqs
 refine at_exit <| Zt <| Zt <| nx_block_exit <| Zx <| Zq <| Zg <| Zm Y <| Zh 0 underlying51 rfl rfl sizeOf3 Y <| Zl isAgg3 Y ?_
 refine Zp Y rfl <| Zh 1 underlying71 rfl rfl sizeOf3 Y <| Xe (Zs sizeOf3 Y Y rfl) ?_
 refine Z0 <| Zx <| Zq <| Zg <| Za Y <| Z0 <| Zx <| at_ret ?_
 refine nx_end1 rfl results21 Y (by exact .inl ⟨⟨hok, hpo, hfit, by omega⟩, _, sw, rfl, by rw [← hqs]; exact hrw, rfl⟩)

end Go.Proofs.YtkgmgmkbgnkdnaaGreatDoor
