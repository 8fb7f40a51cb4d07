/- Sorted lists of rows: what a change does to them. -/
import Derived.Test.YtkgmgmkbgnkdnaaGreatEz
import Derived.Test.YtkgmgmkbgnkdnaaGreatLg7
import Derived.Test.YtkgmgmkbgnkdnaaGreatEx16

namespace Go.Proofs.YtkgmgmkbgnkdnaaGreat
open Go.Proofs.Tryz
open Go Go.RowKit Gw
set_option linter.unusedVariables false
set_option linter.unusedSimpArgs false
set_option maxRecDepth 100000
attribute [local irreducible] Gw.At Gw.Nx Gw.Ops
theorem place_split : ∀ (rs : List RowM) (t k : Int), SortedR rs → ∃ A B, rs = A ++ B ∧ A.length = placeL rs t k ∧ (∀ r ∈ A, r.lt2 t k) ∧ (∀ r ∈ B, ¬ r.lt2 t k)
  | [], t, k, _ => ⟨[], [], rfl, rfl, by simp, by simp⟩
  | r :: rs, t, k, hs => by
    have hs' := List.pairwise_cons.1 hs
    by_cases h : r.lt2 t k
    · obtain ⟨A, B, h1, h2, h3, h4⟩ := place_split rs t k hs'.2
      refine ⟨r :: A, B, by rw [h1]; rfl, ?_, ?_, h4⟩
      · unfold placeL at *
        rw [List.takeWhile_cons, if_pos (by simpa using h), List.length_cons, List.length_cons, h2]
      · intro x hx
        rcases List.mem_cons.1 hx with rfl | hx
        · exact h
        · exact h3 x hx
    · refine ⟨[], r :: rs, rfl, ?_, by simp, ?_⟩
      · unfold placeL
        rw [List.takeWhile_cons, if_neg (by simpa using h)]
      · intro x hx hc
        rcases List.mem_cons.1 hx with rfl | hx
        · exact h hc
        · exact h (lt2_trans (hs'.1 x hx) hc)
theorem is_not_lt {r : RowM} {t k : Int} (h : r.is t k) : ¬ r.lt2 t k := by unfold RowM.is RowM.lt2 at *; omega
theorem get_true {rs : List RowM} {t k : Int} {r : RowM} (hs : SortedR rs) (hr : r ∈ rs) (h : r.is t k) : getL rs t k = (r, true) := by
  obtain ⟨A, B, h1, h2, h3, h4⟩ := place_split rs t k hs
  have hB : r ∈ B := by
    rw [h1] at hr
    rcases List.mem_append.1 hr with h9 | h9
    · exact absurd (h3 r h9) (is_not_lt h)
    · exact h9
  cases B with
  | nil => cases hB
  | cons b B =>
    have hb : b = r := by
      rcases List.mem_cons.1 hB with h9 | h9
      · exact h9.symm
      · exfalso
        have hs2 : SortedR (b :: B) := by rw [h1] at hs; exact (List.pairwise_append.1 hs).2.1
        have h8 := (List.pairwise_cons.1 hs2).1 r h9
        have h7 := h4 b (by simp)
        unfold RowM.is at h
        rw [h.1, h.2] at h8
        exact h7 h8
    subst hb
    have hg : rs[placeL rs t k]? = some b := by rw [← h2, h1, List.getElem?_append_right (Nat.le_refl _), Nat.sub_self]; rfl
    unfold getL
    rw [hg]
    simp only
    rw [if_pos h]
theorem get_false {rs : List RowM} {t k : Int} (h : ∀ r ∈ rs, ¬ r.is t k) : getL rs t k = (RowM.zero, false) := by
  unfold getL
  split
  · rename_i r hr
    rw [if_neg (h r (List.mem_of_getElem? hr))]
  · rfl
theorem get_some {rs : List RowM} {t k : Int} (h : (getL rs t k).2 = true) : ∃ r ∈ rs, r.is t k ∧ rs[placeL rs t k]? = some r ∧ getL rs t k = (r, true) := by
  unfold getL at *
  split at h
  · rename_i r hr
    split at h
    · rename_i hi
      exact ⟨r, List.mem_of_getElem? hr, hi, hr, by rw [if_pos hi]⟩
    · cases h
  · cases h
def fitC (rs : List RowM) (c : Chg) : Prop := (getL rs c.t c.k).2 = c.had ∧ ((getL rs c.t c.k).2 = true → (getL rs c.t c.k).1.v = c.o)
def newC (c : Chg) : List RowM := if c.has then [⟨c.t, c.k, c.n⟩] else []
def putL (rs : List RowM) (c : Chg) : List RowM := rs.take (placeL rs c.t c.k) ++ newC c ++ (rs.drop (placeL rs c.t c.k)).drop (if c.had then 1 else 0)
theorem newC_mem {c : Chg} {x : RowM} : x ∈ newC c ↔ c.has = true ∧ x = ⟨c.t, c.k, c.n⟩ := by
  unfold newC
  cases c.has <;> simp
theorem put_split {rs : List RowM} {c : Chg} (hs : SortedR rs) (hf : fitC rs c) : ∃ A B, putL rs c = A ++ newC c ++ B ∧ (∀ x, x ∈ rs ↔ x ∈ A ∨ x ∈ B ∨ (x ∈ rs ∧ x.is c.t c.k)) ∧ SortedR A ∧ SortedR B ∧ (∀ r ∈ A, r.lt2 c.t c.k) ∧ (∀ r ∈ B, c.t < r.t ∨ c.t = r.t ∧ c.k < r.k) ∧ rs.length = A.length + B.length + (if c.had then 1 else 0) := by
  obtain ⟨A, B, h1, h2, h3, h4⟩ := place_split rs c.t c.k hs
  have hsA : SortedR A := by rw [h1] at hs; exact (List.pairwise_append.1 hs).1
  have hsB : SortedR B := by rw [h1] at hs; exact (List.pairwise_append.1 hs).2.1
  have hta : rs.take (placeL rs c.t c.k) = A := by rw [← h2, h1, List.take_left' rfl]
  have hdr : rs.drop (placeL rs c.t c.k) = B := by rw [← h2, h1, List.drop_left' rfl]
  unfold putL
  rw [hta, hdr]
  have gt_of : ∀ x ∈ B, ¬ x.is c.t c.k → c.t < x.t ∨ c.t = x.t ∧ c.k < x.k := fun x hx hn => by
    have h9 := h4 x hx
    unfold RowM.lt2 at h9; unfold RowM.is at hn; omega
  cases hh : c.had with
  | false =>
    have hno : ∀ r ∈ rs, ¬ r.is c.t c.k := fun r hr hi => by
      have h9 := hf.1
      rw [get_true hs hr hi, hh] at h9; cases h9
    refine ⟨A, B, by simp, fun x => ?_, hsA, hsB, h3, fun r hr => gt_of r hr (hno r (by rw [h1]; exact List.mem_append_right _ hr)), by rw [h1]; simp⟩
    rw [h1, List.mem_append]
    constructor
    · rintro (h | h)
      · exact .inl h
      · exact .inr (.inl h)
    · rintro (h | h | ⟨h, _⟩)
      · exact .inl h
      · exact .inr h
      · exact h
  | true =>
    obtain ⟨r, hr, hi, hp, hg⟩ := get_some (by rw [hf.1, hh] : (getL rs c.t c.k).2 = true)
    have hb : B[0]? = some r := by rw [← h2, h1, List.getElem?_append_right (Nat.le_refl _), Nat.sub_self] at hp; exact hp
    cases B with
    | nil => cases hb
    | cons b B =>
      injection hb with hb
      subst hb
      have hsB2 := List.pairwise_cons.1 hsB
      refine ⟨A, B, by simp, fun x => ?_, hsA, hsB2.2, h3, fun x hx => ?_, by rw [h1]; simp; omega⟩
      · constructor
        · intro hx
          have hx2 := hx
          rw [h1] at hx
          rcases List.mem_append.1 hx with h | h
          · exact .inl h
          · rcases List.mem_cons.1 h with rfl | h
            · exact .inr (.inr ⟨hx2, hi⟩)
            · exact .inr (.inl h)
        · rintro (h | h | ⟨h, _⟩)
          · rw [h1]; exact List.mem_append_left _ h
          · rw [h1]; exact List.mem_append_right _ (List.mem_cons_of_mem _ h)
          · exact h
      · have h9 := hsB2.1 x hx
        unfold RowM.lt2 at h9; unfold RowM.is at hi; omega
theorem mem_put {rs : List RowM} {c : Chg} (hs : SortedR rs) (hf : fitC rs c) (x : RowM) : x ∈ putL rs c ↔ (x ∈ rs ∧ ¬ x.is c.t c.k) ∨ (c.has = true ∧ x = ⟨c.t, c.k, c.n⟩) := by
  obtain ⟨A, B, h1, h2, _, _, h3, h4, _⟩ := put_split hs hf
  rw [h1, List.mem_append, List.mem_append, newC_mem]
  have a9 : ∀ x ∈ A, ¬ x.is c.t c.k := fun x hx hi => is_not_lt hi (h3 x hx)
  have b9 : ∀ x ∈ B, ¬ x.is c.t c.k := fun x hx hi => by have h9 := h4 x hx; unfold RowM.is at hi; omega
  constructor
  · rintro ((h | h) | h)
    · exact .inl ⟨(h2 x).2 (.inl h), a9 x h⟩
    · exact .inr h
    · exact .inl ⟨(h2 x).2 (.inr (.inl h)), b9 x h⟩
  · rintro (⟨h, hn⟩ | h)
    · rcases (h2 x).1 h with h9 | h9 | ⟨_, h9⟩
      · exact .inl (.inl h9)
      · exact .inr h9
      · exact absurd h9 hn
    · exact .inl (.inr h)
theorem sorted_put {rs : List RowM} {c : Chg} (hs : SortedR rs) (hf : fitC rs c) : SortedR (putL rs c) := by
  obtain ⟨A, B, h1, _, hA, hB, h3, h4, _⟩ := put_split hs hf
  rw [h1]
  have lt_of : ∀ a b : RowM, a.lt2 c.t c.k → (c.t < b.t ∨ c.t = b.t ∧ c.k < b.k) → a.lt2 b.t b.k := fun a b ha hb => by unfold RowM.lt2 at *; omega
  refine List.pairwise_append.2 ⟨List.pairwise_append.2 ⟨hA, ?_, ?_⟩, hB, ?_⟩
  · unfold newC; split <;> simp
  · intro a ha b hb
    obtain ⟨_, rfl⟩ := newC_mem.1 hb
    exact h3 a ha
  · intro a ha b hb
    rcases List.mem_append.1 ha with ha | ha
    · exact lt_of a b (h3 a ha) (h4 b hb)
    · obtain ⟨_, rfl⟩ := newC_mem.1 ha
      have := h4 b hb
      unfold RowM.lt2; simp only; omega
theorem len_put {rs : List RowM} {c : Chg} (hs : SortedR rs) (hf : fitC rs c) : ((putL rs c).length : Int) = rs.length + (if c.has then 1 else 0) - (if c.had then 1 else 0) := by
  obtain ⟨A, B, h1, _, _, _, _, _, h5⟩ := put_split hs hf
  rw [h1, h5]
  unfold newC
  cases c.has <;> cases c.had <;> simp <;> omega
theorem get_put {rs : List RowM} {c : Chg} (hs : SortedR rs) (hf : fitC rs c) {t k : Int} (hne : ¬ (c.t = t ∧ c.k = k)) : getL (putL rs c) t k = getL rs t k := by
  cases hg : (getL rs t k).2 with
  | true =>
    obtain ⟨r, hr, hi, _, he⟩ := get_some hg
    rw [he]
    exact get_true (sorted_put hs hf) ((mem_put hs hf r).2 (.inl ⟨hr, fun h => by unfold RowM.is at h hi; omega⟩)) hi
  | false =>
    have hno : ∀ r ∈ rs, ¬ r.is t k := fun r hr hi => by rw [get_true hs hr hi] at hg; cases hg
    rw [get_false hno]
    refine get_false fun r hr hi => ?_
    rcases (mem_put hs hf r).1 hr with ⟨h, _⟩ | ⟨_, rfl⟩
    · exact hno r h hi
    · exact hne hi
def putAllR (rs : List RowM) (cs : List Chg) : List RowM := cs.foldl putL rs
theorem putAllR_next (rs : List RowM) (cs : List Chg) (i : Nat) (c : Chg) (h : cs[i]? = some c) : putAllR rs (cs.take (i + 1)) = putL (putAllR rs (cs.take i)) c := by
  unfold putAllR
  rw [List.take_add_one, h, List.foldl_append]; rfl
def AscC (cs : List Chg) : Prop := ∀ (i j : Nat) (b c : Chg), i < j → cs[i]? = some b → cs[j]? = some c → b.lt c
theorem chg_trans {a b c : Chg} (h : a.lt b) (h2 : b.lt c) : a.lt c := by unfold Chg.lt at *; omega
theorem asc_of {cs : List Chg} (h : ∀ (i : Nat) (b c : Chg), cs[i]? = some b → cs[i + 1]? = some c → b.lt c) : AscC cs := by
  intro i j b c hij hb hc
  obtain ⟨d, rfl⟩ : ∃ d, j = i + 1 + d := ⟨j - (i + 1), by omega⟩
  clear hij
  induction d generalizing c with
  | zero => exact h i b c hb hc
  | succ d ih =>
    obtain ⟨x, hx⟩ : ∃ x, cs[i + 1 + d]? = some x := by
      have := (List.getElem?_eq_some_iff.1 hc).1
      exact ⟨_, List.getElem?_eq_getElem (by omega)⟩
    exact chg_trans (ih x hx) (h (i + 1 + d) x c hx hc)
theorem fold_inv {rs : List RowM} {cs : List Chg} (hs : SortedR rs) (ha : AscC cs) (hf : ∀ c ∈ cs, fitC rs c) : ∀ i, i ≤ cs.length → SortedR (putAllR rs (cs.take i)) ∧ ∀ (j : Nat) (c : Chg), i ≤ j → cs[j]? = some c → fitC (putAllR rs (cs.take i)) c
  | 0, _ => ⟨hs, fun j c _ hc => hf c (List.mem_of_getElem? hc)⟩
  | i + 1, hi => by
    obtain ⟨h1, h2⟩ := fold_inv hs ha hf i (by omega)
    obtain ⟨x, hx⟩ : ∃ x, cs[i]? = some x := ⟨_, List.getElem?_eq_getElem (by omega)⟩
    rw [putAllR_next rs cs i x hx]
    have hfx := h2 i x (Nat.le_refl _) hx
    refine ⟨sorted_put h1 hfx, fun j c hj hc => ?_⟩
    have hlt := ha i j x c (by omega) hx hc
    have h9 := h2 j c (by omega) hc
    unfold fitC at *
    rw [get_put h1 hfx (by unfold Chg.lt at hlt; omega)]
    exact h9
def sizeC (c : Chg) : Int := (if c.has then 1 else 0) - (if c.had then 1 else 0)
def sizeL (rs : List RowM) (cs : List Chg) : Int := cs.foldl (fun n c => n + sizeC c) (rs.length : Int)
theorem sizeL_next (rs : List RowM) (cs : List Chg) (i : Nat) (c : Chg) (h : cs[i]? = some c) : sizeL rs (cs.take (i + 1)) = sizeL rs (cs.take i) + sizeC c := by
  unfold sizeL
  rw [List.take_add_one, h, List.foldl_append]; rfl
theorem sizeC_le (c : Chg) : -1 ≤ sizeC c ∧ sizeC c ≤ 1 := by unfold sizeC; split <;> split <;> omega
theorem sizeL_le (rs : List RowM) (cs : List Chg) : ∀ i, (rs.length : Int) - i ≤ sizeL rs (cs.take i) ∧ sizeL rs (cs.take i) ≤ rs.length + i
  | 0 => by unfold sizeL; simp
  | i + 1 => by
    have ih := sizeL_le rs cs i
    cases h : cs[i]? with
    | none => rw [List.take_add_one, h]; simp only [Option.toList, List.append_nil]; omega
    | some c => have h9 := sizeC_le c; rw [sizeL_next rs cs i c h]; omega
theorem len_putAll {rs : List RowM} {cs : List Chg} (hs : SortedR rs) (ha : AscC cs) (hf : ∀ c ∈ cs, fitC rs c) : ∀ i, i ≤ cs.length → ((putAllR rs (cs.take i)).length : Int) = sizeL rs (cs.take i)
  | 0, _ => rfl
  | i + 1, hi => by
    obtain ⟨x, hx⟩ : ∃ x, cs[i]? = some x := ⟨_, List.getElem?_eq_getElem (by omega)⟩
    have ih := len_putAll hs ha hf i (by omega)
    obtain ⟨h1, h2⟩ := fold_inv hs ha hf i (by omega)
    rw [putAllR_next rs cs i x hx, sizeL_next rs cs i x hx, len_put h1 (h2 i x (Nat.le_refl _) hx), ih]
    unfold sizeC; omega
structure AppOk (rs : List RowM) (p rp : Int) (cs : List Chg) : Prop where
  ok : RecOk rp cs
  pos : rp = p + 1
  fit : ∀ c ∈ cs, fitC rs c
  size : sizeL rs cs ≤ 2000
theorem fit_more {rs : List RowM} {cs : List Chg} {i : Nat} {x : Chg} (h : ∀ c ∈ cs.take i, fitC rs c) (hx : cs[i]? = some x) (ho : fitC rs x) : ∀ c ∈ cs.take (i + 1), fitC rs c := by
  rw [List.take_add_one, hx]
  intro c hc
  rcases List.mem_append.1 hc with h9 | h9
  · exact h c h9
  · rw [List.mem_singleton.1 h9]; exact ho
theorem rowCells_app (a b : List RowM) : rowCells (a ++ b) = rowCells a ++ rowCells b := by unfold rowCells; rw [List.flatMap_append]
theorem rowCells_len : ∀ (rs : List RowM), (rowCells rs).length = rs.length * 5
  | [] => rfl
  | r :: rs => by
    have := rowCells_len rs
    unfold rowCells at *
    rw [List.flatMap_cons, List.length_append, this, List.length_cons]; simp; omega
theorem rowCells_take (rs : List RowM) (k : Nat) : (rowCells rs).take (k * 5) = rowCells (rs.take k) := by
  rcases Nat.lt_or_ge rs.length k with h | h
  · rw [List.take_of_length_le (by rw [rowCells_len]; omega), List.take_of_length_le (by omega)]
  · have e : rowCells rs = rowCells (rs.take k) ++ rowCells (rs.drop k) := by rw [← rowCells_app, List.take_append_drop]
    rw [e, List.take_left' (by rw [rowCells_len, List.length_take]; omega)]
theorem rowCells_drop (rs : List RowM) (k : Nat) : (rowCells rs).drop (k * 5) = rowCells (rs.drop k) := by
  rcases Nat.lt_or_ge rs.length k with h | h
  · rw [List.drop_of_length_le (by rw [rowCells_len]; omega), List.drop_of_length_le (by omega)]; rfl
  · have e : rowCells rs = rowCells (rs.take k) ++ rowCells (rs.drop k) := by rw [← rowCells_app, List.take_append_drop]
    rw [e, List.drop_left' (by rw [rowCells_len, List.length_take]; omega)]
theorem rowCells_one (rs : List RowM) : ∀ u ∈ rowCells rs, u.oneCell' = true := by
  intro u hu
  unfold rowCells at hu
  obtain ⟨r, _, h⟩ := List.mem_flatMap.1 hu
  simp only [List.mem_cons, List.not_mem_nil, or_false] at h
  rcases h with rfl | rfl | rfl | rfl | rfl <;> rfl

end Go.Proofs.YtkgmgmkbgnkdnaaGreat
