/- SnapshotSurvives, plain: what a disk may hold after a power failure. SnapshotSurvives, plain: what the two disks of a store may hold. -/
import Derived.Test.YthbadolcncojbaaGreatDoorGs2
import Derived.Test.YthbadolcncojbaaGreatDoorGs4
import Derived.Test.YthbadolcncojbaaGreatDoorSp3

namespace Go.Proofs.YthbadolcncojbaaGreatDoor
open Go Go.RowKit Gw
set_option linter.unusedVariables false
set_option maxRecDepth 100000
attribute [local irreducible] Gw.At Gw.Nx Gw.Ops
/-- What the disk d may hold after a power failure. -/
def Cont (d : DiskS) (c : List UInt8) : Prop := ∃ zs torn, c = (d.crash zs torn).vi
theorem torn_off (ws : List (Nat × List UInt8)) : tornL (-1) ws = ws := by
  unfold tornL
  apply List.ext_getElem?
  intro i
  rw [List.getElem?_mapIdx]
  cases ws[i]? with
  | none => rfl
  | some p => simp only [Option.map_some]; rw [if_neg (by omega)]
theorem kept_snoc (pend : List (Nat × List UInt8)) (p : Nat × List UInt8) (zs : List Int) : keptW (pend ++ [p]) zs = if (pend.length : Int) ∈ zs then keptW pend zs ++ [p] else keptW pend zs := by
  unfold keptW
  rw [List.length_append, List.length_singleton]
  have hm : (keptL pend.length zs).map (fun i => (pend ++ [p]).getD i (0, [])) = (keptL pend.length zs).map fun i => pend.getD i (0, []) := by
    apply List.map_congr_left
    intro i hi
    have := keptL_lt hi
    rw [List.getD_eq_getElem?_getD, List.getD_eq_getElem?_getD, List.getElem?_append_left this]
  by_cases h : (pend.length : Int) ∈ zs
  · rw [if_pos h, kw_yes pend zs _ h, List.map_append, hm]
    simp [List.getD_eq_getElem?_getD]
  · rw [if_neg h, kw_no pend zs _ h, hm]
theorem torn_snoc (torn : Int) (ws : List (Nat × List UInt8)) (p : Nat × List UInt8) : tornL torn (ws ++ [p]) = ws ++ [if 0 ≤ torn then (p.1, p.2.take torn.toNat) else p] := by
  unfold tornL
  apply List.ext_getElem?
  intro i
  rw [List.getElem?_mapIdx, List.getElem?_append, List.getElem?_append, List.length_append, List.length_singleton]
  by_cases h : i < ws.length
  · rw [if_pos h, if_pos h, List.getElem?_eq_getElem h]
    simp only [Option.map_some]
    rw [if_neg (by omega)]
  · rw [if_neg h, if_neg h]
    by_cases h2 : i = ws.length
    · subst h2
      rw [Nat.sub_self]
      simp
    · rw [List.getElem?_eq_none (by simp; omega), List.getElem?_eq_none (by simp; omega)]; rfl
theorem cont_write {d : DiskS} {o : Nat} {s c : List UInt8} (h : Cont (d.write o s).2 c) : Cont d c ∨ ∃ c' k, Cont d c' ∧ c = splice c' o (s.take k) := by
  obtain ⟨zs, torn, rfl⟩ := h
  unfold DiskS.write
  split
  · exact .inl ⟨zs, torn, rfl⟩
  · have e : ∀ off left vi, (DiskS.crash ⟨off, left, d.du, vi, d.pend ++ [(o, s)]⟩ zs torn).vi = vis d.du (tornL torn (keptW (d.pend ++ [(o, s)]) zs)) := fun _ _ _ => rfl
    simp only [e]
    rw [kept_snoc]
    by_cases hz : (d.pend.length : Int) ∈ zs
    · rw [if_pos hz, torn_snoc, vis_snoc]
      refine .inr ⟨vis d.du (keptW d.pend zs), if 0 ≤ torn then torn.toNat else s.length, ⟨zs, -1, ?_⟩, ?_⟩
      · show _ = vis d.du (tornL (-1) (keptW d.pend zs))
        rw [torn_off]
      · by_cases ht : 0 ≤ torn
        · rw [if_pos ht, if_pos ht]
        · rw [if_neg ht, if_neg ht, List.take_of_length_le (Nat.le_refl _)]
    · rw [if_neg hz]
      exact .inl ⟨zs, torn, rfl⟩
theorem cont_none {d : DiskS} (hp : d.pend = []) {c : List UInt8} (h : Cont d c) : c = d.du := by
  obtain ⟨zs, torn, rfl⟩ := h
  show vis d.du (tornL torn (keptW d.pend zs)) = d.du
  rw [hp]
  rfl
theorem cont_same {d d' : DiskS} (h1 : d'.du = d.du) (h2 : d'.pend = d.pend) {c : List UInt8} (h : Cont d' c) : Cont d c := by
  obtain ⟨zs, torn, rfl⟩ := h
  refine ⟨zs, torn, ?_⟩
  show vis d'.du (tornL torn (keptW d'.pend zs)) = vis d.du (tornL torn (keptW d.pend zs))
  rw [h1, h2]
theorem sync_cases (d : DiskS) : (d.sync.1 = 221 ∧ d.sync.2 = d) ∨ (d.sync.1 = 0 ∧ d.off = false ∧ d.sync.2 = ⟨false, d.left, d.vi, d.vi, []⟩) := by
  obtain ⟨off, left, du, vi, pend⟩ := d
  cases off with
  | true => exact .inl ⟨rfl, rfl⟩
  | false => exact .inr ⟨rfl, rfl, rfl⟩
theorem write_cases (d : DiskS) (o : Nat) (s : List UInt8) : ((d.write o s).1 = 221 ∧ d.off = true ∧ (d.write o s).2 = d) ∨ ((d.write o s).1 = 0 ∧ d.off = false ∧ (d.write o s).2 = ⟨usedOff false d.left, usedLeft d.left, d.du, splice d.vi o s, d.pend ++ [(o, s)]⟩) := by
  obtain ⟨off, left, du, vi, pend⟩ := d
  cases off with
  | true => exact .inl ⟨rfl, rfl, rfl⟩
  | false => exact .inr ⟨rfl, rfl, rfl⟩
/-- The content c stores the records rs. -/
def Good (c : List UInt8) (rs : List (List UInt8)) : Prop := (∀ r ∈ rs, r.length ≤ 65536) ∧ ∃ t, c = outL zero32 rs ++ t ∧ (t = [] ∨ ∃ t', t = 0 :: t')
theorem load_tail (T : List UInt8) (hT : T = [] ∨ ∃ t', T = 0 :: t') : ∀ (ls : List (List UInt8)) (pre : List UInt8) (rs : List (List UInt8)) (h : List UInt8) (f : Nat), (∀ r ∈ ls, r.length ≤ 65536) → ls.length < f →
    loadL (pre ++ (outL h ls ++ T)) f rs h pre.length = some (rs ++ ls, headL h ls, pre.length + (outL h ls).length)
  | [], pre, rs, h, f, _, hf => by
    obtain ⟨f', rfl⟩ : ∃ f', f = f' + 1 := ⟨f - 1, by simp at hf; omega⟩
    rw [loadL, List.getElem?_append_right (Nat.le_refl _), Nat.sub_self]
    simp only [outL, List.nil_append, headL, List.append_nil, List.length_nil, Nat.add_zero]
    rcases hT with rfl | ⟨t', rfl⟩
    · rfl
    · simp
  | x :: t, pre, rs, h, f, hl, hf => by
    obtain ⟨f', rfl⟩ : ∃ f', f = f' + 1 := ⟨f - 1, by simp at hf; omega⟩
    have hx := hl x (by simp)
    have hrl := recS_len h x hx
    have ih := load_tail T hT t (pre ++ recS h x) (rs ++ [x]) (chainS h x) f' (fun r hr => hl r (by simp [hr])) (by simp only [List.length_cons] at hf; omega)
    have e0 : pre ++ (outL h (x :: t) ++ T) = (pre ++ [1]) ++ encS x ++ (chainS h x ++ (outL (chainS h x) t ++ T)) := by simp [outL, recS]
    have e1 : pre ++ (outL h (x :: t) ++ T) = pre ++ (recS h x ++ (outL (chainS h x) t ++ T)) := by simp [outL]
    have e2 : pre ++ (outL h (x :: t) ++ T) = (pre ++ recS h x) ++ (outL (chainS h x) t ++ T) := by simp [outL]
    have hd := decS_enc (pre ++ [1]) (chainS h x ++ (outL (chainS h x) t ++ T)) x hx
    rw [← e0, List.length_append, List.length_singleton] at hd
    have hb : (pre ++ (outL h (x :: t) ++ T))[pre.length]? = some 1 := by
      rw [e1, List.getElem?_append_right (Nat.le_refl _), Nat.sub_self]; rfl
    have hcond : pre.length + 1 + (encS x).length + 32 ≤ (pre ++ (outL h (x :: t) ++ T)).length ∧ recS h x = ((pre ++ (outL h (x :: t) ++ T)).drop pre.length).take (pre.length + 1 + (encS x).length + 32 - pre.length) := by
      constructor
      · rw [e1, List.length_append, List.length_append]; omega
      · rw [e1, List.drop_left' rfl, List.take_left' (by omega)]
    rw [loadL, hb]
    simp only
    rw [if_neg (by decide), if_pos (by decide), hd]
    simp only
    rw [if_pos hcond]
    have e3 : pre.length + (recS h x).length = (pre ++ recS h x).length := by rw [List.length_append]
    rw [e2, e3, ih]
    simp only [outL, headL, List.length_append, List.append_assoc, List.singleton_append]
    congr 3; omega
theorem Good.load {c : List UInt8} {rs : List (List UInt8)} (h : Good c rs) : loadL c (c.length + 1) [] zero32 0 = some (rs, headL zero32 rs, (outL zero32 rs).length) := by
  obtain ⟨hs, t, rfl, ht⟩ := h
  have h1 := load_tail t ht rs [] [] zero32 ((outL zero32 rs ++ t).length + 1) hs (by have := out_count rs zero32; rw [List.length_append]; omega)
  simpa using h1
/-- A journal and its disk, with nothing pending, with or without power. -/
structure JQ (j : JrS) (d : DiskS) : Prop where
  pend : d.pend = []
  du : d.du = d.vi
  br : j.br = false
  head : j.h = headL zero32 j.rs
  sz : j.sz = (outL zero32 j.rs).length
  fit : j.sz ≤ d.vi.length
  vi : d.vi = outL zero32 j.rs ++ List.replicate (d.vi.length - j.sz) 0
  short : ∀ r ∈ j.rs, r.length ≤ 65536
theorem rep_tail (n : Nat) : List.replicate n (0 : UInt8) = [] ∨ ∃ t', List.replicate n (0 : UInt8) = 0 :: t' := by
  cases n with
  | zero => exact .inl rfl
  | succ n => exact .inr ⟨_, List.replicate_succ⟩
theorem JQ.good {j : JrS} {d : DiskS} (h : JQ j d) : Good d.vi j.rs := ⟨h.short, _, h.vi, rep_tail _⟩
theorem JQ.cont {j : JrS} {d : DiskS} (h : JQ j d) {c : List UInt8} (hc : Cont d c) : Good c j.rs := by
  rw [cont_none h.pend hc, h.du]; exact h.good
theorem JQ.same {j : JrS} {d d' : DiskS} (h : JQ j d) (h1 : d'.du = d.du) (h2 : d'.vi = d.vi) (h3 : d'.pend = d.pend) : JQ j d' :=
  ⟨by rw [h3]; exact h.pend, by rw [h1, h2]; exact h.du, h.br, h.head, h.sz, by rw [h2]; exact h.fit, by rw [h2]; exact h.vi, h.short⟩
theorem splice_at (P t s : List UInt8) (n : Nat) (hn : P.length = n) : splice (P ++ t) n s = P ++ (s ++ t.drop s.length) := by
  subst hn
  unfold splice
  rw [List.take_left' rfl, List.drop_append, List.drop_of_length_le (by omega), show P.length + s.length - P.length = s.length by omega]
  simp
/-- Opening a disk whose content is good. -/
theorem Good.opened {d : DiskS} {rs : List (List UInt8)} (hg : Good d.vi rs) (hp : d.pend = []) (hdu : d.du = d.vi) :
    (∃ j, d.openJ.2.1 = some j ∧ d.openJ.1 = 0 ∧ j.rs = rs ∧ JQ j d.openJ.2.2) ∨ (d.openJ.2.1 = none ∧ d.openJ.1 = 221 ∧ (d.off = true ∨ d.left ≠ 0) ∧ ∀ c, Cont d.openJ.2.2 c → Good c rs) := by
  have hload := hg.load
  cases hoff : d.off with
  | true =>
    have e : d.openJ = (221, none, d) := by unfold DiskS.openJ; rw [if_pos hoff]
    rw [e]
    exact .inr ⟨rfl, rfl, .inl rfl, fun c hc => by rw [cont_none hp hc, hdu]; exact hg⟩
  | false =>
    obtain ⟨hs, t, ht, ht2⟩ := hg
    have hlen : d.vi.length - (outL zero32 rs).length = t.length := by rw [ht, List.length_append]; omega
    have hdrop : d.vi.drop (outL zero32 rs).length = t := by rw [ht, List.drop_left' rfl]
    by_cases hz : t = List.replicate t.length 0
    · have e : d.openJ = (0, some ⟨rs, headL zero32 rs, (outL zero32 rs).length, false⟩, d) := by
        unfold DiskS.openJ; rw [if_neg (by rw [hoff]; simp), hload]; simp only
        rw [if_pos (by rw [hdrop, hlen]; exact hz)]
      rw [e]
      exact .inl ⟨_, rfl, rfl, rfl, hp, hdu, rfl, rfl, rfl, by show (outL zero32 rs).length ≤ d.vi.length; rw [ht, List.length_append]; omega, by show d.vi = outL zero32 rs ++ List.replicate (d.vi.length - (outL zero32 rs).length) 0; rw [hlen, ← hz]; exact ht, hs⟩
    · have hne : ¬ d.vi.drop (outL zero32 rs).length = List.replicate (d.vi.length - (outL zero32 rs).length) 0 := by rw [hdrop, hlen]; exact hz
      obtain ⟨t', rfl⟩ : ∃ t', t = 0 :: t' := by
        rcases ht2 with rfl | h9
        · exact absurd rfl hz
        · exact h9
      have hwv : splice d.vi (outL zero32 rs).length (List.replicate (d.vi.length - (outL zero32 rs).length) 0) = outL zero32 rs ++ List.replicate (0 :: t').length 0 := by
        rw [ht, splice_at _ _ _ _ rfl, ← ht, hlen, List.length_replicate, List.drop_of_length_le (Nat.le_refl _), List.append_nil]
      have e : ∀ p, d.zero (outL zero32 rs).length = p → (p.1 = 0 → d.openJ = (0, some ⟨rs, headL zero32 rs, (outL zero32 rs).length, false⟩, p.2)) ∧ (p.1 ≠ 0 → d.openJ = (p.1, none, p.2)) := by
        rintro p rfl
        unfold DiskS.openJ
        rw [if_neg (by rw [hoff]; simp), hload]; simp only
        rw [if_neg hne]
        exact ⟨fun h => by rw [if_pos h], fun h => by rw [if_neg h]⟩
      have hdz : d.zero (outL zero32 rs).length = (DiskS.sync ⟨usedOff false d.left, usedLeft d.left, d.du, outL zero32 rs ++ List.replicate (0 :: t').length 0, d.pend ++ [((outL zero32 rs).length, List.replicate (d.vi.length - (outL zero32 rs).length) 0)]⟩) := by
        unfold DiskS.zero
        simp only
        rcases write_cases d (outL zero32 rs).length (List.replicate (d.vi.length - (outL zero32 rs).length) 0) with ⟨_, h9, _⟩ | ⟨h1, _, h2⟩
        · rw [hoff] at h9; cases h9
        · rw [h1, h2, hwv, if_neg (by simp)]
      have hsp : ∀ s : List UInt8, splice d.vi (outL zero32 rs).length s = outL zero32 rs ++ (s ++ (0 :: t').drop s.length) := fun s => by rw [ht, splice_at _ _ _ _ rfl]
      have hcw : ∀ c, Cont (d.write (outL zero32 rs).length (List.replicate (d.vi.length - (outL zero32 rs).length) 0)).2 c → Good c rs := by
        intro c hc
        rcases cont_write hc with h9 | ⟨c', k, h9, rfl⟩
        · rw [cont_none hp h9, hdu]; exact ⟨hs, _, ht, .inr ⟨t', rfl⟩⟩
        · rw [cont_none hp h9, hdu]
          refine ⟨hs, _, hsp _, ?_⟩
          rw [List.take_replicate]
          generalize min k (d.vi.length - (outL zero32 rs).length) = q
          cases q with
          | zero => right; exact ⟨t', rfl⟩
          | succ m => right; exact ⟨_, by rw [List.replicate_succ]; rfl⟩
      rcases sync_cases ⟨usedOff false d.left, usedLeft d.left, d.du, outL zero32 rs ++ List.replicate (0 :: t').length 0, d.pend ++ [((outL zero32 rs).length, List.replicate (d.vi.length - (outL zero32 rs).length) 0)]⟩ with ⟨h1, h2⟩ | ⟨h1, h2, h3⟩
      · rw [← hdz] at h1 h2
        have e2 := (e _ rfl).2 (by rw [h1]; decide)
        rw [e2]
        refine .inr ⟨rfl, h1, .inr ?_, fun c hc => ?_⟩
        · intro h0
          rw [hdz, h0] at h1
          simp [DiskS.sync, usedOff] at h1
        · refine hcw c ?_
          have h4 : (d.zero (outL zero32 rs).length).2 = (d.write (outL zero32 rs).length (List.replicate (d.vi.length - (outL zero32 rs).length) 0)).2 := by
            rw [h2]
            rcases write_cases d (outL zero32 rs).length (List.replicate (d.vi.length - (outL zero32 rs).length) 0) with ⟨_, h9, _⟩ | ⟨_, _, h9⟩
            · rw [hoff] at h9; cases h9
            · rw [h9, hwv]
          rw [← h4]; exact hc
      · rw [← hdz] at h1 h3
        have e2 := (e _ rfl).1 h1
        rw [e2, h3]
        have hvl : (outL zero32 rs ++ List.replicate (0 :: t').length (0 : UInt8)).length = (outL zero32 rs).length + (0 :: t').length := by rw [List.length_append, List.length_replicate]
        exact .inl ⟨_, rfl, rfl, rfl, rfl, rfl, rfl, rfl, rfl, by show (outL zero32 rs).length ≤ (outL zero32 rs ++ List.replicate (0 :: t').length (0 : UInt8)).length; omega, by show outL zero32 rs ++ List.replicate (0 :: t').length (0 : UInt8) = outL zero32 rs ++ List.replicate ((outL zero32 rs ++ List.replicate (0 :: t').length (0 : UInt8)).length - (outL zero32 rs).length) 0; rw [hvl, Nat.add_sub_cancel_left], hs⟩
/-- Appending to a journal and its disk: done, full, or the power has failed. -/
theorem JQ.append {j : JrS} {d : DiskS} (hj : JQ j d) (ls : List (List UInt8)) (hl : ∀ r ∈ ls, r.length ≤ 65536) :
    ((j.append d ls).1 = 0 ∧ JQ (j.append d ls).2.1 (j.append d ls).2.2 ∧ (j.append d ls).2.1.rs = j.rs ++ ls) ∨
    ((j.append d ls).1 = 231 ∧ (j.append d ls).2 = (j, d)) ∨
    ((j.append d ls).1 = 221 ∧ (j.append d ls).2.1 = { j with br := true } ∧ (d.off = true ∨ d.left ≠ 0) ∧ ∀ c, Cont (j.append d ls).2.2 c → Good c j.rs ∨ Good c (j.rs ++ ls)) := by
  have hany : ls.any isLong = false := by
    rw [List.any_eq_false]
    intro r hr
    have := hl r hr
    unfold isLong
    simp; omega
  unfold JrS.append
  rw [if_neg (by rw [hany, hj.br]; simp)]
  by_cases h1 : d.vi.length < j.sz + (outL j.h ls).length
  · rw [if_pos h1]
    exact .inr (.inl ⟨rfl, rfl⟩)
  rw [if_neg h1]
  by_cases h2 : outL j.h ls = []
  · rw [if_pos h2]
    have h3 : ls = [] := by
      have h4 := out_count ls j.h
      rw [h2] at h4
      exact List.eq_nil_of_length_eq_zero (by simpa using h4)
    exact .inl ⟨rfl, hj, by rw [h3, List.append_nil]⟩
  rw [if_neg h2]
  have htwo := outL_two j.h ls hl h2
  obtain ⟨out, ho⟩ : ∃ out, out = outL j.h ls := ⟨_, rfl⟩
  rw [← ho] at h1 h2 htwo ⊢
  obtain ⟨x, t, rfl⟩ : ∃ x t, out = x :: t := by
    cases out with
    | nil => exact absurd rfl h2
    | cons x t => exact ⟨x, t, rfl⟩
  have hout : outL zero32 (j.rs ++ ls) = outL zero32 j.rs ++ (x :: t) := by rw [outL_append, ← hj.head, ← ho]
  have hsh : ∀ r ∈ j.rs ++ ls, r.length ≤ 65536 := fun r hr => by
    rcases List.mem_append.1 hr with h | h
    · exact hj.short r h
    · exact hl r h
  have hlen2 : (x :: t).length = t.length + 1 := rfl
  obtain ⟨m, hm⟩ : ∃ m, d.vi.length - j.sz = m + 1 := ⟨d.vi.length - j.sz - 1, by omega⟩
  have hvi : d.vi = (outL zero32 j.rs ++ [0]) ++ List.replicate m 0 := by
    have := hj.vi
    rw [hm, List.replicate_succ] at this
    rw [this]; simp
  have hP : (outL zero32 j.rs ++ [(0 : UInt8)]).length = j.sz + 1 := by rw [List.length_append, List.length_singleton, ← hj.sz]
  have hw1 : ∀ s : List UInt8, splice d.vi (j.sz + 1) s = outL zero32 j.rs ++ (0 :: (s ++ (List.replicate m 0).drop s.length)) := fun s => by
    rw [hvi, splice_at _ _ _ _ hP]; simp
  have hgood1 : ∀ s : List UInt8, Good (splice d.vi (j.sz + 1) s) j.rs := fun s => ⟨hj.short, _, hw1 s, .inr ⟨_, rfl⟩⟩
  have hw2 : splice (splice d.vi (j.sz + 1) t) j.sz [x] = outL zero32 (j.rs ++ ls) ++ List.replicate (d.vi.length - (j.sz + (x :: t).length)) 0 := by
    rw [hw1, splice_at _ _ _ _ hj.sz.symm, hout]
    simp only [List.length_singleton, List.drop_succ_cons, List.drop_zero, List.drop_replicate, List.append_assoc, List.cons_append, List.nil_append]
    congr 4; omega
  have hgood2 : Good (splice (splice d.vi (j.sz + 1) t) j.sz [x]) (j.rs ++ ls) := ⟨hsh, _, hw2, rep_tail _⟩
  have hvl : (splice (splice d.vi (j.sz + 1) t) j.sz [x]).length = d.vi.length := by
    rw [hw2, hout, List.length_append, List.length_append, List.length_replicate, ← hj.sz]; omega
  have hold : ∀ c, Cont d c → Good c j.rs := fun c hc => hj.cont hc
  obtain ⟨q, hq⟩ : ∃ q, q = d.app j.sz (x :: t) := ⟨_, rfl⟩
  rw [← hq]
  have hq : q = if (d.write (j.sz + 1) t).1 ≠ 0 then d.write (j.sz + 1) t else if (d.write (j.sz + 1) t).2.sync.1 ≠ 0 then (d.write (j.sz + 1) t).2.sync else if ((d.write (j.sz + 1) t).2.sync.2.write j.sz [x]).1 ≠ 0 then (d.write (j.sz + 1) t).2.sync.2.write j.sz [x] else ((d.write (j.sz + 1) t).2.sync.2.write j.sz [x]).2.sync := hq
  obtain ⟨E, hE⟩ : ∃ E, E = (if q.1 ≠ 0 then (q.1, { j with br := true }, q.2) else ((0 : Int), (⟨j.rs ++ ls, headL j.h ls, j.sz + (x :: t).length, j.br⟩ : JrS), q.2)) := ⟨_, rfl⟩
  rw [← hE]
  have hc1 : ∀ c, Cont (d.write (j.sz + 1) t).2 c → Good c j.rs := fun c hc => by
    rcases cont_write hc with h9 | ⟨c', k, h9, rfl⟩
    · exact hold c h9
    · rw [cont_none hj.pend h9, hj.du]; exact hgood1 _
  have fin : q.1 = 221 → (d.off = true ∨ d.left ≠ 0) → (∀ c, Cont q.2 c → Good c j.rs ∨ Good c (j.rs ++ ls)) → (E.1 = 0 ∧ JQ E.2.1 E.2.2 ∧ E.2.1.rs = j.rs ++ ls) ∨ (E.1 = 231 ∧ E.2 = (j, d)) ∨ (E.1 = 221 ∧ E.2.1 = { j with br := true } ∧ (d.off = true ∨ d.left ≠ 0) ∧ ∀ c, Cont E.2.2 c → Good c j.rs ∨ Good c (j.rs ++ ls)) := fun h1 h2 h3 => by
    rw [if_pos (by rw [h1]; decide), h1] at hE
    rw [hE]
    exact .inr (.inr ⟨rfl, rfl, h2, h3⟩)
  rcases write_cases d (j.sz + 1) t with ⟨a1, a2, a3⟩ | ⟨a1, a2, a3⟩
  · rw [if_pos (by rw [a1]; decide)] at hq
    exact fin (by rw [hq, a1]) (.inl a2) (fun c hc => .inl (hc1 c (by rw [← hq]; exact hc)))
  rw [if_neg (by rw [a1]; decide)] at hq
  obtain ⟨d1, hd1⟩ : ∃ d1, d1 = (d.write (j.sz + 1) t).2 := ⟨_, rfl⟩
  rw [← hd1] at a3 hc1 hq
  have hl1 : d.left = 0 → d1.off = false ∧ d1.left = 0 := fun h => by rw [a3, h]; exact ⟨rfl, rfl⟩
  rcases sync_cases d1 with ⟨b1, b2⟩ | ⟨b1, b0, b2⟩
  · rw [if_pos (by rw [b1]; decide)] at hq
    refine fin (by rw [hq, b1]) (.inr fun h => ?_) (fun c hc => .inl (hc1 c (by rw [← b2, ← hq]; exact hc)))
    have h9 := (hl1 h).1
    unfold DiskS.sync at b1
    rw [h9] at b1
    exact absurd b1 (by simp)
  rw [if_neg (by rw [b1]; decide)] at hq
  have hv1 : d1.vi = splice d.vi (j.sz + 1) t := by rw [a3]
  obtain ⟨d2, hd2⟩ : ∃ d2, d2 = d1.sync.2 := ⟨_, rfl⟩
  rw [← hd2] at b2 hq
  rw [hv1] at b2
  have hl2 : d.left = 0 → d2.off = false ∧ d2.left = 0 := fun h => by rw [b2]; exact ⟨rfl, (hl1 h).2⟩
  have hp2 : d2.pend = [] := by rw [b2]
  have hdu2 : d2.du = splice d.vi (j.sz + 1) t := by rw [b2]
  have ho2 : d2.off = false := by rw [b2]
  have hc2 : ∀ c, Cont (d2.write j.sz [x]).2 c → Good c j.rs ∨ Good c (j.rs ++ ls) := fun c hc => by
    rcases cont_write hc with h9 | ⟨c', k, h9, rfl⟩
    · rw [cont_none hp2 h9, hdu2]; exact .inl (hgood1 _)
    · rw [cont_none hp2 h9, hdu2]
      cases k with
      | zero => rw [List.take_zero, splice_zero]; exact .inl (hgood1 _)
      | succ k =>
        have e : ([x] : List UInt8).take (k + 1) = [x] := by simp
        rw [e]; exact .inr hgood2
  rcases write_cases d2 j.sz [x] with ⟨_, a9, _⟩ | ⟨g1, _, g3⟩
  · rw [ho2] at a9; cases a9
  rw [if_neg (by rw [g1]; decide)] at hq
  obtain ⟨d3, hd3⟩ : ∃ d3, d3 = (d2.write j.sz [x]).2 := ⟨_, rfl⟩
  rw [← hd3] at g3 hc2 hq
  have hl3 : d.left = 0 → d3.off = false := fun h => by rw [g3, (hl2 h).2]; rfl
  have hv3 : d3.vi = splice (splice d.vi (j.sz + 1) t) j.sz [x] := by rw [g3, b2]
  rcases sync_cases d3 with ⟨k1, k2⟩ | ⟨k1, k0, k2⟩
  · refine fin (by rw [hq, k1]) (.inr fun h => ?_) (fun c hc => hc2 c (by rw [← k2, ← hq]; exact hc))
    have h9 := hl3 h
    unfold DiskS.sync at k1
    rw [h9] at k1
    exact absurd k1 (by simp)
  · have hq1 : q.1 = 0 := by rw [hq, k1]
    have hq2 : q.2 = ⟨false, d3.left, splice (splice d.vi (j.sz + 1) t) j.sz [x], splice (splice d.vi (j.sz + 1) t) j.sz [x], []⟩ := by rw [hq, k2, hv3]
    rw [if_neg (by rw [hq1]; decide), hq2] at hE
    rw [hE]
    refine .inl ⟨rfl, ?_, rfl⟩
    refine ⟨rfl, rfl, hj.br, ?_, ?_, ?_, ?_, hsh⟩
    · show headL j.h ls = headL zero32 (j.rs ++ ls)
      rw [headL_append, ← hj.head]
    · show j.sz + (x :: t).length = (outL zero32 (j.rs ++ ls)).length
      rw [hout, List.length_append, ← hj.sz]
    · show j.sz + (x :: t).length ≤ (splice (splice d.vi (j.sz + 1) t) j.sz [x]).length
      rw [hvl]; omega
    · show splice (splice d.vi (j.sz + 1) t) j.sz [x] = outL zero32 (j.rs ++ ls) ++ List.replicate ((splice (splice d.vi (j.sz + 1) t) j.sz [x]).length - (j.sz + (x :: t).length)) 0
      rw [hvl]; exact hw2

/-- What the current disk may hold, if T are the lists that may be found. -/
def CurC (T : List (List UInt8) → Prop) (gen : Nat) (c : List UInt8) : Prop := ∃ l, T l ∧ Good c (recsOf gen l)
/-- What the other disk may hold. -/
def OthC (T : List (List UInt8) → Prop) (gen : Nat) (c : List UInt8) : Prop :=
  Good c [] ∨ (∃ g l, 1 ≤ g ∧ g < gen ∧ Good c (recsOf g l)) ∨ (∃ l, T l ∧ gen < 1000000000 ∧ Good c (recsOf (gen + 1) l))
def NoL (_ : List (List UInt8)) : Prop := False
theorem OthC.mono {T T' : List (List UInt8) → Prop} {gen : Nat} {c : List UInt8} (ht : ∀ l, T l → T' l) (h : OthC T gen c) : OthC T' gen c := by
  rcases h with h | h | ⟨l, h1, h2, h3⟩
  · exact .inl h
  · exact .inr (.inl h)
  · exact .inr (.inr ⟨l, ht l h1, h2, h3⟩)
theorem OthC.any {T : List (List UInt8) → Prop} {gen : Nat} {c : List UInt8} (h : OthC NoL gen c) : OthC T gen c := h.mono fun _ h => h.elim
/-- A store: the current journal and its disk, the other ones. -/
structure Half (T : List (List UInt8) → Prop) (gen : Nat) (its : List (List UInt8)) (err : Int) (jc : JrS) (dc : DiskS) (jo : JrS) (dd : DiskS) : Prop where
  ti : T its
  g1 : 1 ≤ gen
  g2 : gen ≤ 1000000000
  cur : ∀ x, Cont dc x → CurC T gen x
  cne : jc.rs ≠ []
  cq : jc.br = false → JQ jc dc ∧ jc.rs = recsOf gen its
  oth : ∀ x, Cont dd x → OthC T gen x
  ono : err = 0 → ∀ x, Cont dd x → OthC NoL gen x
  oq : err = 0 → jo.rs = [] → JQ jo dd
theorem Half.mono {T T' : List (List UInt8) → Prop} {gen : Nat} {its : List (List UInt8)} {err : Int} {jc jo : JrS} {dc dd : DiskS} (h : Half T gen its err jc dc jo dd) (ht : ∀ l, T l → T' l) : Half T' gen its err jc dc jo dd :=
  ⟨ht _ h.ti, h.g1, h.g2, fun x hx => by obtain ⟨l, h1, h2⟩ := h.cur x hx; exact ⟨l, ht l h1, h2⟩, h.cne, h.cq, fun x hx => (h.oth x hx).mono ht, h.ono, h.oq⟩
theorem ers_surv {j : JrS} {d : DiskS} {gen : Nat} (hq : j.rs = [] → JQ j d) (hc : ∀ x, Cont d x → OthC NoL gen x) :
    (∃ j', (ersS j d).2.1 = some j' ∧ (ersS j d).1 = 0 ∧ j'.rs = [] ∧ JQ j' (ersS j d).2.2) ∨
    ((ersS j d).2.1 = none ∧ (ersS j d).1 = 221 ∧ ∀ x, Cont (ersS j d).2.2 x → OthC NoL gen x) := by
  have fin : ∀ d' : DiskS, Good d'.vi [] → d'.pend = [] → d'.du = d'.vi → (∃ j', d'.openJ.2.1 = some j' ∧ d'.openJ.1 = 0 ∧ j'.rs = [] ∧ JQ j' d'.openJ.2.2) ∨ (d'.openJ.2.1 = none ∧ d'.openJ.1 = 221 ∧ ∀ x, Cont d'.openJ.2.2 x → OthC NoL gen x) := fun d' h1 h2 h3 => by
    rcases h1.opened h2 h3 with h | ⟨h4, h5, _, h6⟩
    · exact .inl h
    · exact .inr ⟨h4, h5, fun x hx => .inl (h6 x hx)⟩
  by_cases hr : j.rs = []
  · rw [ers_nil hr]
    have hj := hq hr
    have hg := hj.good
    rw [hr] at hg
    exact fin d hg hj.pend hj.du
  have hzero : ∀ c : List UInt8, Good (splice c 0 [0]) [] := fun c => ⟨by simp, _, rfl, .inr ⟨_, rfl⟩⟩
  have hcw : ∀ x, Cont (d.write 0 [0]).2 x → OthC NoL gen x := fun x hx => by
    rcases cont_write hx with h9 | ⟨c', k, h9, rfl⟩
    · exact hc x h9
    · cases k with
      | zero => rw [List.take_zero, splice_zero]; exact hc _ h9
      | succ k =>
        have e : ([0] : List UInt8).take (k + 1) = [0] := by simp
        rw [e]; exact .inl (hzero _)
  rcases write_cases d 0 [0] with ⟨a1, a2, a3⟩ | ⟨a1, a2, a3⟩
  · rw [ers_w hr (by rw [a1]; decide), a1, a3]
    exact .inr ⟨rfl, rfl, hc⟩
  rcases sync_cases (d.write 0 [0]).2 with ⟨b1, b2⟩ | ⟨b1, b0, b2⟩
  · rw [ers_s hr (by rw [a1]; decide) (by rw [b1]; decide), b1, b2]
    exact .inr ⟨rfl, rfl, hcw⟩
  · rw [ers_o hr (by rw [a1]; decide) (by rw [b1]; decide), b2, a3]
    exact fin _ (hzero _) rfl rfl
theorem Half.cpt {T : List (List UInt8) → Prop} {gen : Nat} {its : List (List UInt8)} {jc jo : JrS} {dc dd : DiskS} (h : Half T gen its 0 jc dc jo dd) (hg : gen < 1000000000) (ls : List (List UInt8)) (hb : ls.any isBig = false) :
    ((cptS jo dd gen ls).1 = 0 ∧ Half (fun l => l = ls) (gen + 1) ls 0 (cptS jo dd gen ls).2.1 (cptS jo dd gen ls).2.2 jc dc) ∨
    ((cptS jo dd gen ls).1 ≠ 0 ∧ ∀ T' : List (List UInt8) → Prop, (∀ l, T l → T' l) → T' ls → Half T' gen its (errS (cptS jo dd gen ls).1) jc dc (cptS jo dd gen ls).2.1 (cptS jo dd gen ls).2.2) := by
  rcases ers_surv (h.oq rfl) (h.ono rfl) with ⟨j', hx, _, hr, hq⟩ | ⟨hx, he, hc⟩
  · rw [cptS_some hx]
    have ha := hq.append (recsOf (gen + 1) ls) (recs_long (by omega) hb)
    rw [hr, List.nil_append] at ha
    rcases ha with ⟨h1, h2, h3⟩ | ⟨h1, h2⟩ | ⟨h1, h2, _, h4⟩
    · refine .inl ⟨h1, rfl, by omega, by omega, fun x hx2 => ⟨ls, rfl, ?_⟩, ?_, fun _ => ⟨h2, h3⟩, ?_, ?_, fun _ h9 => absurd h9 h.cne⟩
      · have := h2.cont hx2; rwa [h3] at this
      · rw [h3]; unfold recsOf; simp
      · intro x hx2
        obtain ⟨l, _, h9⟩ := h.cur x hx2
        exact .inr (.inl ⟨gen, l, h.g1, Nat.lt_succ_self _, h9⟩)
      · intro _ x hx2
        obtain ⟨l, _, h9⟩ := h.cur x hx2
        exact .inr (.inl ⟨gen, l, h.g1, Nat.lt_succ_self _, h9⟩)
    · refine .inr ⟨by rw [h1]; decide, fun T' ht hl => ?_⟩
      rw [h2]
      have hm := h.mono ht
      have hgood : ∀ x, Cont (ersS jo dd).2.2 x → Good x [] := fun x hx2 => by have := hq.cont hx2; rwa [hr] at this
      exact ⟨hm.ti, hm.g1, hm.g2, hm.cur, hm.cne, hm.cq, fun x hx2 => .inl (hgood x hx2), fun _ x hx2 => .inl (hgood x hx2), fun _ _ => hq⟩
    · refine .inr ⟨by rw [h1]; decide, fun T' ht hl => ?_⟩
      have hm := h.mono ht
      have he9 : errS 221 ≠ 0 := by decide
      rw [h1]
      refine ⟨hm.ti, hm.g1, hm.g2, hm.cur, hm.cne, hm.cq, fun x hx2 => ?_, fun h9 => absurd h9 he9, fun h9 => absurd h9 he9⟩
      rcases h4 x hx2 with h9 | h9
      · exact .inl h9
      · exact .inr (.inr ⟨ls, hl, hg, h9⟩)
  · rw [cptS_none hx, he]
    refine .inr ⟨by decide, fun T' ht hl => ?_⟩
    have hm := h.mono ht
    have he9 : errS 221 ≠ 0 := by decide
    exact ⟨hm.ti, hm.g1, hm.g2, hm.cur, hm.cne, hm.cq, fun x hx2 => (hc x hx2).any, fun h9 => absurd h9 he9, fun h9 => absurd h9 he9⟩
theorem recs_append (gen : Nat) (its ls : List (List UInt8)) : recsOf gen its ++ ls.map itm = recsOf gen (its ++ ls) := by
  unfold recsOf; simp
theorem Half.app {T : List (List UInt8) → Prop} {gen : Nat} {its : List (List UInt8)} {err : Int} {jc jo : JrS} {dc dd : DiskS} (h : Half T gen its err jc dc jo dd) (ls : List (List UInt8)) (hb : ls.any isBig = false) :
    ((appS jc dc err its ls).1 = 0 ∧ (appS jc dc err its ls).2.2.2 = its ++ ls ∧ Half (fun l => l = its ++ ls) gen (its ++ ls) err (appS jc dc err its ls).2.1 (appS jc dc err its ls).2.2.1 jo dd) ∨
    ((appS jc dc err its ls).1 ≠ 0 ∧ (appS jc dc err its ls).2.2.2 = its ∧ ∀ T' : List (List UInt8) → Prop, (∀ l, T l → T' l) → T' (its ++ ls) → Half T' gen its err (appS jc dc err its ls).2.1 (appS jc dc err its ls).2.2.1 jo dd) := by
  by_cases he : err ≠ 0
  · rw [appS_err hb he]
    exact .inr ⟨he, rfl, fun T' ht _ => h.mono ht⟩
  have he0 : err = 0 := Classical.not_not.1 he
  cases hbr : jc.br with
  | true =>
    have e : jc.append dc (ls.map itm) = (230, jc, dc) := by unfold JrS.append; rw [if_pos (.inl hbr)]
    have h0 : ¬ (jc.append dc (ls.map itm)).1 = 0 := by rw [e]; show ¬ (230 : Int) = 0; decide
    rw [appS_no hb he h0, e]
    exact .inr ⟨by show (230 : Int) ≠ 0; decide, rfl, fun T' ht _ => h.mono ht⟩
  | false =>
    obtain ⟨hq, hrs⟩ := h.cq hbr
    have ha := hq.append (ls.map itm) (itm_long hb)
    rw [hrs, recs_append] at ha
    rcases ha with ⟨h1, h2, h3⟩ | ⟨h1, h2⟩ | ⟨h1, h2, _, h4⟩
    · rw [appS_ok hb he h1]
      refine .inl ⟨h1, rfl, rfl, h.g1, h.g2, fun x hx2 => ⟨_, rfl, ?_⟩, ?_, fun _ => ⟨h2, h3⟩, fun x hx2 => (h.ono he0 x hx2).any, h.ono, h.oq⟩
      · have := h2.cont hx2; rwa [h3] at this
      · simp only; rw [h3]; unfold recsOf; simp
    · have h0 : ¬ (jc.append dc (ls.map itm)).1 = 0 := by rw [h1]; decide
      rw [appS_no hb he h0, h2]
      exact .inr ⟨h0, rfl, fun T' ht _ => h.mono ht⟩
    · have h0 : ¬ (jc.append dc (ls.map itm)).1 = 0 := by rw [h1]; decide
      rw [appS_no hb he h0]
      refine .inr ⟨h0, rfl, fun T' ht hl => ?_⟩
      have hm := h.mono ht
      simp only
      refine ⟨hm.ti, hm.g1, hm.g2, fun x hx2 => ?_, (by rw [h2]; show recsOf gen its ≠ []; unfold recsOf; simp), (fun h9 => by rw [h2] at h9; cases h9), hm.oth, hm.ono, hm.oq⟩
      rcases h4 x hx2 with h9 | h9
      · exact ⟨its, hm.ti, h9⟩
      · exact ⟨_, hl, h9⟩
def Surv (T : List (List UInt8) → Prop) (c : Core) (da db : DiskS) : Prop := if c.sw then Half T c.gen c.its c.err c.jb db c.ja da else Half T c.gen c.its c.err c.ja da c.jb db
theorem Surv.its {T : List (List UInt8) → Prop} {c : Core} {da db : DiskS} (h : Surv T c da db) : T c.its := by
  unfold Surv at h
  split at h
  · exact h.ti
  · exact h.ti
theorem Surv.mono {T T' : List (List UInt8) → Prop} {c : Core} {da db : DiskS} (h : Surv T c da db) (ht : ∀ l, T l → T' l) : Surv T' c da db := by
  unfold Surv at h ⊢
  split at h
  · rename_i hs; rw [if_pos hs]; exact h.mono ht
  · rename_i hs; rw [if_neg hs]; exact h.mono ht
theorem Surv.app {T : List (List UInt8) → Prop} {c : Core} {da db : DiskS} (h : Surv T c da db) (ls : List (List UInt8)) (hb : ls.any isBig = false) :
    ((c.app da db ls).1 = 0 ∧ (c.app da db ls).2.1.its = c.its ++ ls ∧ Surv (fun l => l = c.its ++ ls) (c.app da db ls).2.1 (c.app da db ls).2.2.1 (c.app da db ls).2.2.2) ∨
    ((c.app da db ls).1 ≠ 0 ∧ (c.app da db ls).2.1.its = c.its ∧ ∀ T' : List (List UInt8) → Prop, (∀ l, T l → T' l) → T' (c.its ++ ls) → Surv T' (c.app da db ls).2.1 (c.app da db ls).2.2.1 (c.app da db ls).2.2.2) := by
  obtain ⟨ja, jb, sw, gen, its, err⟩ := c
  cases sw with
  | true =>
    have h : Half T gen its err jb db ja da := h
    rcases h.app ls hb with ⟨h1, h2, h3⟩ | ⟨h1, h2, h3⟩
    · exact .inl ⟨h1, h2, by show Half _ gen (appS jb db err its ls).2.2.2 err _ _ _ _; rw [h2]; exact h3⟩
    · exact .inr ⟨h1, h2, fun T' ht hl => by show Half _ gen (appS jb db err its ls).2.2.2 err _ _ _ _; rw [h2]; exact h3 T' ht hl⟩
  | false =>
    have h : Half T gen its err ja da jb db := h
    rcases h.app ls hb with ⟨h1, h2, h3⟩ | ⟨h1, h2, h3⟩
    · exact .inl ⟨h1, h2, by show Half _ gen (appS ja da err its ls).2.2.2 err _ _ _ _; rw [h2]; exact h3⟩
    · exact .inr ⟨h1, h2, fun T' ht hl => by show Half _ gen (appS ja da err its ls).2.2.2 err _ _ _ _; rw [h2]; exact h3 T' ht hl⟩
theorem Surv.cpt {T : List (List UInt8) → Prop} {c : Core} {da db : DiskS} (h : Surv T c da db) (ls : List (List UInt8)) (hb : ls.any isBig = false) :
    ((c.cpt da db ls).1 = 0 ∧ (c.cpt da db ls).2.1.its = ls ∧ Surv (fun l => l = ls) (c.cpt da db ls).2.1 (c.cpt da db ls).2.2.1 (c.cpt da db ls).2.2.2) ∨
    ((c.cpt da db ls).1 ≠ 0 ∧ (c.cpt da db ls).2.1.its = c.its ∧ ∀ T' : List (List UInt8) → Prop, (∀ l, T l → T' l) → T' ls → Surv T' (c.cpt da db ls).2.1 (c.cpt da db ls).2.2.1 (c.cpt da db ls).2.2.2) := by
  unfold Core.cpt
  split
  · exact .inr ⟨by show (240 : Int) ≠ 0; decide, rfl, fun T' ht _ => h.mono ht⟩
  rename_i hb2
  have hg : c.gen < 1000000000 := by
    rcases Nat.lt_or_ge c.gen 1000000000 with h9 | h9
    · exact h9
    · exact absurd (.inr h9) hb2
  split
  · rename_i he
    exact .inr ⟨he, rfl, fun T' ht _ => h.mono ht⟩
  rename_i he
  obtain ⟨ja, jb, sw, gen, its, err⟩ := c
  have he : err = 0 := Classical.not_not.1 he
  subst he
  have hg : gen < 1000000000 := hg
  cases sw with
  | true =>
    have h : Half T gen its 0 jb db ja da := h
    simp only [if_true]
    rcases h.cpt hg ls hb with ⟨h1, h3⟩ | ⟨h1, h3⟩
    · rw [if_neg (by rw [h1]; decide)]
      exact .inl ⟨rfl, rfl, h3⟩
    · rw [if_pos h1]
      exact .inr ⟨h1, rfl, h3⟩
  | false =>
    have h : Half T gen its 0 ja da jb db := h
    simp only [Bool.false_eq_true, if_false]
    rcases h.cpt hg ls hb with ⟨h1, h3⟩ | ⟨h1, h3⟩
    · rw [if_neg (by rw [h1]; decide)]
      exact .inl ⟨rfl, rfl, h3⟩
    · rw [if_pos h1]
      exact .inr ⟨h1, rfl, h3⟩
theorem cut_keep (d : DiskS) (m : Nat) : (d.cut m).2.du = d.du ∧ (d.cut m).2.vi = d.vi ∧ (d.cut m).2.pend = d.pend := by
  unfold DiskS.cut; split <;> exact ⟨rfl, rfl, rfl⟩
theorem Half.same {T : List (List UInt8) → Prop} {gen : Nat} {its : List (List UInt8)} {err : Int} {jc jo : JrS} {dc dd dc' dd' : DiskS} (h : Half T gen its err jc dc jo dd) (h1 : dc'.du = dc.du ∧ dc'.vi = dc.vi ∧ dc'.pend = dc.pend) (h2 : dd'.du = dd.du ∧ dd'.vi = dd.vi ∧ dd'.pend = dd.pend) : Half T gen its err jc dc' jo dd' :=
  ⟨h.ti, h.g1, h.g2, fun x hx => h.cur x (cont_same h1.1 h1.2.2 hx), h.cne, fun hb => ⟨(h.cq hb).1.same h1.1 h1.2.1 h1.2.2, (h.cq hb).2⟩, fun x hx => h.oth x (cont_same h2.1 h2.2.2 hx), fun he x hx => h.ono he x (cont_same h2.1 h2.2.2 hx), fun he hr => (h.oq he hr).same h2.1 h2.2.1 h2.2.2⟩
theorem Surv.same {T : List (List UInt8) → Prop} {c : Core} {da db da' db' : DiskS} (h : Surv T c da db) (h1 : da'.du = da.du ∧ da'.vi = da.vi ∧ da'.pend = da.pend) (h2 : db'.du = db.du ∧ db'.vi = db.vi ∧ db'.pend = db.pend) : Surv T c da' db' := by
  unfold Surv at h ⊢
  split at h
  · rename_i hs; rw [if_pos hs]; exact h.same h2 h1
  · rename_i hs; rw [if_neg hs]; exact h.same h1 h2
theorem crash_opened (d : DiskS) (zs : List Int) (t : Int) {rs : List (List UInt8)} (hg : Good (d.crash zs t).vi rs) : ∃ j, (d.crash zs t).openJ.2.1 = some j ∧ j.rs = rs ∧ JQ j (d.crash zs t).openJ.2.2 := by
  rcases hg.opened rfl rfl with ⟨j, h1, _, h3, h4⟩ | ⟨_, _, h, _⟩
  · exact ⟨j, h1, h3, h4⟩
  · rcases h with h | h
    · cases h
    · exact absurd rfl h
theorem half_two {gen : Nat} {its : List (List UInt8)} {jc jo : JrS} {dc dd : DiskS} (hc : JQ jc dc) (ho : JQ jo dd) (g1 : 1 ≤ gen) (g2 : gen ≤ 1000000000) (hr : jc.rs = recsOf gen its) (hr2 : jo.rs = [] ∨ ∃ g l, 1 ≤ g ∧ g < gen ∧ jo.rs = recsOf g l) : Half (fun l => l = its) gen its 0 jc dc jo dd := by
  have hoc : ∀ T : List (List UInt8) → Prop, ∀ x, Cont dd x → OthC T gen x := fun T x hx => by
    have h1 := ho.cont hx
    rcases hr2 with h9 | ⟨g, l, h5, h6, h7⟩
    · rw [h9] at h1; exact .inl h1
    · rw [h7] at h1; exact .inr (.inl ⟨g, l, h5, h6, h1⟩)
  exact ⟨rfl, g1, g2, fun x hx => ⟨its, rfl, by have := hc.cont hx; rwa [hr] at this⟩, by rw [hr]; unfold recsOf; simp, fun _ => ⟨hc, hr⟩, hoc _, fun _ => hoc _, fun _ _ => ho⟩
theorem Surv.open {T : List (List UInt8) → Prop} {c : Core} {da db : DiskS} (h : Surv T c da db) (z1 z2 : List Int) (t1 t2 : Int) : ∃ c', (openS (da.crash z1 t1) (db.crash z2 t2)).1 = 0 ∧ (openS (da.crash z1 t1) (db.crash z2 t2)).2.1 = some c' ∧ T c'.its ∧ Surv (fun l => l = c'.its) c' (openS (da.crash z1 t1) (db.crash z2 t2)).2.2.1 (openS (da.crash z1 t1) (db.crash z2 t2)).2.2.2 := by
  have ca : Cont da (da.crash z1 t1).vi := ⟨z1, t1, rfl⟩
  have cb : Cont db (db.crash z2 t2).vi := ⟨z2, t2, rfl⟩
  unfold Surv at h
  split at h
  · obtain ⟨l, hl, hgb⟩ := h.cur _ cb
    obtain ⟨jb, hjb, hrb, hqb⟩ := crash_opened db z2 t2 hgb
    have e4 : rdL jb.rs = some (c.gen, l) := by rw [hrb]; exact rdL_recs _ _ h.g1 h.g2
    have g1 := h.g1
    have g2 := h.g2
    rcases h.oth _ ca with hga | ⟨g, o, h5, h6, hga⟩ | ⟨o, ho, h6, hga⟩
    · obtain ⟨ja, hja, hra, hqa⟩ := crash_opened da z1 t1 hga
      have e3 : rdL ja.rs = some (0, []) := by rw [hra]; rfl
      rw [openS_two hja hjb e3 e4 (by omega)]
      exact ⟨_, rfl, rfl, hl, half_two hqb hqa g1 g2 hrb (.inl hra)⟩
    · obtain ⟨ja, hja, hra, hqa⟩ := crash_opened da z1 t1 hga
      have e3 : rdL ja.rs = some (g, o) := by rw [hra]; exact rdL_recs _ _ h5 (by omega)
      rw [openS_two hja hjb e3 e4 (by omega)]
      exact ⟨_, rfl, rfl, hl, half_two hqb hqa g1 g2 hrb (.inr ⟨g, o, h5, h6, hra⟩)⟩
    · obtain ⟨ja, hja, hra, hqa⟩ := crash_opened da z1 t1 hga
      have e3 : rdL ja.rs = some (c.gen + 1, o) := by rw [hra]; exact rdL_recs _ _ (by omega) (by omega)
      rw [openS_one hja hjb e3 e4 (by omega)]
      exact ⟨_, rfl, rfl, ho, half_two hqa hqb (show 1 ≤ c.gen + 1 by omega) (show c.gen + 1 ≤ 1000000000 by omega) hra (.inr ⟨c.gen, l, g1, Nat.lt_succ_self _, hrb⟩)⟩
  · obtain ⟨l, hl, hga⟩ := h.cur _ ca
    obtain ⟨ja, hja, hra, hqa⟩ := crash_opened da z1 t1 hga
    have e3 : rdL ja.rs = some (c.gen, l) := by rw [hra]; exact rdL_recs _ _ h.g1 h.g2
    have g1 := h.g1
    have g2 := h.g2
    rcases h.oth _ cb with hgb | ⟨g, o, h5, h6, hgb⟩ | ⟨o, ho, h6, hgb⟩
    · obtain ⟨jb, hjb, hrb, hqb⟩ := crash_opened db z2 t2 hgb
      have e4 : rdL jb.rs = some (0, []) := by rw [hrb]; rfl
      rw [openS_one hja hjb e3 e4 (by omega)]
      exact ⟨_, rfl, rfl, hl, half_two hqa hqb g1 g2 hra (.inl hrb)⟩
    · obtain ⟨jb, hjb, hrb, hqb⟩ := crash_opened db z2 t2 hgb
      have e4 : rdL jb.rs = some (g, o) := by rw [hrb]; exact rdL_recs _ _ h5 (by omega)
      rw [openS_one hja hjb e3 e4 (by omega)]
      exact ⟨_, rfl, rfl, hl, half_two hqa hqb g1 g2 hra (.inr ⟨g, o, h5, h6, hrb⟩)⟩
    · obtain ⟨jb, hjb, hrb, hqb⟩ := crash_opened db z2 t2 hgb
      have e4 : rdL jb.rs = some (c.gen + 1, o) := by rw [hrb]; exact rdL_recs _ _ (by omega) (by omega)
      rw [openS_two hja hjb e3 e4 (by omega)]
      exact ⟨_, rfl, rfl, ho, half_two hqb hqa (show 1 ≤ c.gen + 1 by omega) (show c.gen + 1 ≤ 1000000000 by omega) hrb (.inr ⟨c.gen, l, g1, Nat.lt_succ_self _, hra⟩)⟩
theorem surv_new (n m : Nat) (hn : 36 ≤ n) (hm : 1 ≤ m) : ∃ c', (openS (DiskS.new n) (DiskS.new m)).1 = 0 ∧ (openS (DiskS.new n) (DiskS.new m)).2.1 = some c' ∧ c'.its = [] ∧ Surv (fun l => l = []) c' (openS (DiskS.new n) (DiskS.new m)).2.2.1 (openS (DiskS.new n) (DiskS.new m)).2.2.2 := by
  have ea := openJ_new n (by omega)
  have eb := openJ_new m hm
  have qn : ∀ k, JQ ⟨[], zero32, 0, false⟩ (DiskS.new k) := fun k => ⟨rfl, rfl, rfl, rfl, rfl, Nat.zero_le _, by simp [DiskS.new, outL], by simp⟩
  have hd := JD.append (JD.new n (by omega)) [hdr 1] (by intro r hr; rw [List.mem_singleton.1 hr]; have := hdr_len 1 (by decide); omega)
  have hok : (JrS.append ⟨[], zero32, 0, false⟩ (DiskS.new n) [hdr 1]).1 = 0 := by
    rcases hd.2.2 with ⟨h1, _⟩ | ⟨_, h2, _⟩
    · have hx := hdr1_len
      have hv : (DiskS.new n).vi.length = n := by simp [DiskS.new]
      simp only at h1
      omega
    · exact h2
  have hx := openS_new (da := DiskS.new n) (db := DiskS.new m) (m := 0) (n := 0) (l := []) (o := []) (by rw [ea]) (by rw [eb]) rfl rfl rfl rfl (by rw [ea]; exact Classical.not_not.2 hok)
  rw [hx]
  have ha := (qn n).append [hdr 1] (by intro r hr; rw [List.mem_singleton.1 hr]; have := hdr_len 1 (by decide); omega)
  rcases ha with ⟨_, h2, h3⟩ | ⟨h1, _⟩ | ⟨h1, _⟩
  · rw [ea, eb]
    exact ⟨_, rfl, rfl, rfl, half_two h2 (qn m) (Nat.le_refl _) (show 1 ≤ 1000000000 by decide) h3 (.inl rfl)⟩
  · rw [hok] at h1; exact absurd h1 (by decide)
  · rw [hok] at h1; exact absurd h1 (by decide)

end Go.Proofs.YthbadolcncojbaaGreatDoor
