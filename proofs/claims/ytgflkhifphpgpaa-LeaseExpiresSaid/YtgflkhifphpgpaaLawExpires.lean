/- The law LeaseExpires. -/
import Derived.Test.YtgflkhifphpgpaaLawKit2
import Derived.Deep.AppendLies
import Derived.BigQuiet
namespace Go.Proofs.Ytgflkhifphpgpaa
open Go Go.RowKit Gw
open Go.ChangeMaps (setBlock)
set_option maxHeartbeats 1000000
set_option maxRecDepth 100000

/- the entries behind k calls of Ask -/
def entE (ps S : Nat → Nat) (j : Nat) : ByteArray × (Nat × Ls) := (keyB j, (ps j, ⟨(j : Int) + 1, (S j : Int), 0⟩))
def entL (ps S : Nat → Nat) (k : Nat) : Ents := (List.range k).map (entE ps S)
theorem entL_succ (ps S : Nat → Nat) (k : Nat) : entL ps S (k + 1) = entL ps S k ++ [entE ps S k] := by simp [entL, List.range_succ]
theorem entL_keys {ps S : Nat → Nat} {k : Nat} {q : ByteArray × (Nat × Ls)} (h : q ∈ entL ps S k) : ∃ j, j < k ∧ q = entE ps S j := by
  simp only [entL, List.mem_map, List.mem_range] at h
  obtain ⟨j, hj, rfl⟩ := h
  exact ⟨j, hj, rfl⟩
theorem mlook_none_of {α : Type} {k : ByteArray} {l : List (ByteArray × α)} (h : ∀ p ∈ l, p.1 ≠ k) : mlook k l = none := by
  cases e : mlook k l with
  | none => rfl
  | some v => exact (h _ (mlook_mem e) rfl).elim
theorem entL_new {ps S : Nat → Nat} {k : Nat} (hk : k < 4) : mlook (keyB k) (entL ps S k) = none := by
  refine mlook_none_of fun q hq e => ?_
  obtain ⟨j, hj, rfl⟩ := entL_keys hq
  have := keyB_inj j k (by omega) hk e
  omega
theorem entL_put {ps S : Nat → Nat} {k p : Nat} (hk : k < 4) : mput (keyB k) (p, (⟨(k : Int) + 1, (S k : Int), 0⟩ : Ls)) (entL ps S k) = entL (fun j => if j = k then p else ps j) S (k + 1) := by
  rw [mput_new _ (entL_new hk), entL_succ]
  congr 1
  · unfold entL
    refine List.map_congr_left fun j hj => ?_
    have : j ≠ k := by have := List.mem_range.1 hj; omega
    simp [entE, this]
  · simp [entE]

def cnt (S : Nat → Nat) (now : Int) (i : Nat) : Nat := ((List.range i).filter fun j => oldB (S j) now).length
theorem cnt_succ (S : Nat → Nat) (now : Int) (i : Nat) : cnt S now (i + 1) = cnt S now i + (if oldB (S i) now then 1 else 0) := by
  unfold cnt
  rw [List.range_succ, List.filter_append, List.length_append]
  congr 1
  by_cases h : oldB (S i) now = true <;> simp [h]
theorem cnt_le (S : Nat → Nat) (now : Int) (i : Nat) : cnt S now i ≤ i := by
  have := List.length_filter_le (fun j => oldB (S j) now) (List.range i)
  simpa [cnt] using this

/-- What the expired keys are. -/
structure ExX (S : Nat → Nat) (now : Int) (m : Nat) (xs : List ByteArray) : Prop where
  len : xs.length = cnt S now m
  mem : ∀ i, i < m → (keyB i ∈ xs ↔ oldB (S i) now = true)
  asc : ∀ j, 0 < j → j < xs.length → (xs.getD (j - 1) ⟨#[]⟩).data.toList < (xs.getD j ⟨#[]⟩).data.toList
/-- The entries of the table while the leases are filled, in their order. -/
structure ExA (S : Nat → Nat) (now : Int) (m i : Nat) (A : Ents) : Prop where
  per : ∀ j, j < m → (i ≤ j ∧ oldB (S j) now = false ∧ ∃ p, mlook (keyB j) A = some (p, ⟨(j : Int) + 1, (S j : Int), 0⟩)) ∨ ((j < i ∨ oldB (S j) now = true) ∧ mlook (keyB j) A = none)
  sub : ∀ q ∈ A, ∃ j, j < m ∧ q.1 = keyB j
theorem ex_perm {ps S : Nat → Nat} {now : Int} {m : Nat} {A1 : Ents} {xs : List ByteArray} (hm : m ≤ 4) (hk1 : (A1.map (·.1)).Nodup)
    (h1 : A1.Perm ((entL ps S m).filter fun q => !oldB q.2.2.began now)) (h2 : xs.Perm (((entL ps S m).filter fun q => oldB q.2.2.began now).map (·.1)))
    (h3 : xs.Pairwise (fun x y => x.data.toList ≤ y.data.toList)) (hk : ((entL ps S m).map (·.1)).Nodup) : ExX S now m xs ∧ ExA S now m 0 A1 := by
  have hmem : ∀ i, i < m → (keyB i ∈ xs ↔ oldB (S i) now = true) := by
    intro i hi
    rw [h2.mem_iff]
    simp only [List.mem_map, List.mem_filter]
    constructor
    · rintro ⟨q, ⟨hq, ho⟩, he⟩
      obtain ⟨j, hj, rfl⟩ := entL_keys hq
      have := keyB_inj j i (by omega) (by omega) he
      subst this
      exact ho
    · intro ho
      exact ⟨entE ps S i, ⟨List.mem_map.2 ⟨i, List.mem_range.2 hi, rfl⟩, ho⟩, rfl⟩
  have hnd : xs.Nodup := by
    rw [h2.nodup_iff]
    exact (List.filter_sublist.map _).nodup hk
  refine ⟨⟨?_, hmem, ?_⟩, ⟨?_, ?_⟩⟩
  · rw [h2.length_eq, List.length_map]
    unfold entL
    rw [List.filter_map, List.length_map]
    rfl
  · intro j hj hl
    have e1 : xs.getD (j - 1) ⟨#[]⟩ = xs[j - 1]'(by omega) := by simp [List.getD, show j - 1 < xs.length by omega]
    have e2 : xs.getD j ⟨#[]⟩ = xs[j]'hl := by simp [List.getD, hl]
    rw [e1, e2]
    have hle := (List.pairwise_iff_getElem.1 h3) (j - 1) j (by omega) hl (by omega)
    have hne : xs[j - 1]'(by omega) ≠ xs[j]'hl := (List.pairwise_iff_getElem.1 hnd) (j - 1) j (by omega) hl (by omega)
    rcases List.le_iff_lt_or_eq.1 hle with h | h
    · exact h
    · refine (hne ?_).elim
      cases ha : xs[j - 1]'(by omega) with | mk a =>
      cases hb : xs[j]'hl with | mk c =>
      rw [ha, hb] at h
      simp only at h
      rw [Array.toList_inj.1 h]
  · intro j hj
    cases ho : oldB (S j) now with
    | false =>
      left
      refine ⟨by omega, rfl, ps j, mlook_of_mem hk1 ?_⟩
      rw [h1.mem_iff, List.mem_filter]
      refine ⟨List.mem_map.2 ⟨j, List.mem_range.2 hj, rfl⟩, ?_⟩
      show (!oldB (S j) now) = true
      rw [ho]; rfl
    | true =>
      right
      refine ⟨.inr rfl, mlook_none_of fun q hq e => ?_⟩
      rw [h1.mem_iff, List.mem_filter] at hq
      obtain ⟨i, hi, rfl⟩ := entL_keys hq.1
      have := keyB_inj i j (by omega) (by omega) e
      subst this
      have h4 := hq.2
      change (!oldB (S i) now) = true at h4
      rw [ho] at h4
      simp at h4
  · intro q hq
    rw [h1.mem_iff, List.mem_filter] at hq
    obtain ⟨i, hi, rfl⟩ := entL_keys hq.1
    exact ⟨i, hi, rfl⟩
theorem ex_old {S : Nat → Nat} {now : Int} {m i : Nat} {A : Ents} (h : ExA S now m i A) (hi : i < m) (ho : oldB (S i) now = true) : mlook (keyB i) A = none ∧ ExA S now m (i + 1) A := by
  refine ⟨?_, ⟨fun j hj => ?_, h.sub⟩⟩
  · rcases h.per i hi with ⟨_, h1, _⟩ | ⟨_, h1⟩
    · rw [ho] at h1; simp at h1
    · exact h1
  · rcases h.per j hj with ⟨h0, h1, h2⟩ | ⟨h0, h1⟩
    · left
      refine ⟨?_, h1, h2⟩
      rcases Nat.eq_or_lt_of_le h0 with e | e
      · subst e; rw [ho] at h1; simp at h1
      · omega
    · right
      exact ⟨h0.imp (fun x => by omega) id, h1⟩
theorem ex_stay {S : Nat → Nat} {now : Int} {m i : Nat} {A : Ents} (h : ExA S now m i A) (hm : m ≤ 4) (hi : i < m) (ho : oldB (S i) now = false) (hk : (A.map (·.1)).Nodup) :
    (∃ p, mlook (keyB i) A = some (p, ⟨(i : Int) + 1, (S i : Int), 0⟩)) ∧ ExA S now m (i + 1) (mdel (keyB i) A) := by
  have h1 : ∃ p, mlook (keyB i) A = some (p, ⟨(i : Int) + 1, (S i : Int), 0⟩) := by
    rcases h.per i hi with ⟨_, _, h1⟩ | ⟨h0, _⟩
    · exact h1
    · rcases h0 with h0 | h0
      · omega
      · rw [ho] at h0; simp at h0
  refine ⟨h1, ⟨fun j hj => ?_, fun q hq => h.sub q ((mdel_sublist _ _).subset hq)⟩⟩
  by_cases e : j = i
  · subst e
    exact .inr ⟨.inl (by omega), mlook_mdel_same hk⟩
  · rw [mlook_mdel_ne (fun e1 => e (keyB_inj j i (by omega) (by omega) e1))]
    rcases h.per j hj with ⟨h0, h1, h2⟩ | ⟨h0, h1⟩
    · exact .inl ⟨by omega, h1, h2⟩
    · exact .inr ⟨h0.imp (fun x => by omega) id, h1⟩
theorem ex_done {S : Nat → Nat} {now : Int} {m : Nat} {A : Ents} (h : ExA S now m m A) : A = [] := by
  cases A with
  | nil => rfl
  | cons q l =>
    obtain ⟨j, hj, e⟩ := h.sub q (by simp)
    rcases h.per j hj with ⟨h0, _⟩ | ⟨_, h1⟩
    · omega
    · exact (mlook_none h1 q (by simp) e).elim

/- the state of the memory -/
def xsI (S : Nat → Nat) (k : Nat) : List Value := (List.range k).map fun j => Value.int .i64 (S j : Int)
structure Ex1 (B : Nat) (W0 w : World) (b mb : Nat) (S : Nat → Nat) (k : Nat) (sv : Value) (A : Ents) : Prop where
  ent : ∃ ps, A = entL ps S k
  tab : TabB B w b mb A k
  own : w.ownsRow B 3 1 sv k (xsI S k)
  off : ∀ g, sv.ownBlock = some g → ¬ foot b mb A g
  below : Below B W0 w
structure ExS (B : Nat) (W0 w : World) (b mb : Nat) (A : Ents) (n : Int) (S : Nat → Nat) (m gb : Nat) (xs : List ByteArray) (gl : Nat) : Prop where
  tab : TabB B w b mb A n
  cb : ∀ j, j < m → w.cell? ⟨gb, j, none⟩ = some (.int .i64 (S j : Int))
  cl : ∀ j, j < xs.length → w.cell? ⟨gl, j, none⟩ = some (.string (xs.getD j ⟨#[]⟩))
  ob : 0 < m → ¬ foot b mb A gb
  ol : 0 < xs.length → ¬ foot b mb A gl
  below : Below B W0 w
theorem ownsRow_same {w w' : World} {base : Nat} {e : TypeId} {size : Nat} {v : Value} {n : Nat} {xs : List Value} (h : w.ownsRow base e size v n xs) (hb : ∀ g, v.ownBlock = some g → w'.heap[g]? = w.heap[g]?) : w'.ownsRow base e size v n xs := by
  obtain ⟨h1, h2⟩ := h
  refine ⟨h1, ?_⟩
  rcases h2 with h2 | ⟨g, cap, cur, hv, hg, hh, r⟩
  · exact Or.inl h2
  · exact Or.inr ⟨g, cap, cur, hv, hg, by rw [hb g (by rw [hv]; rfl)]; exact hh, r⟩
theorem own_lt {w : World} {base : Nat} {e : TypeId} {size : Nat} {v : Value} {n : Nat} {xs : List Value} (h : w.ownsRow base e size v n xs) : ∀ g, v.ownBlock = some g → g < w.heap.size := by
  intro g hg
  rcases h.2 with ⟨h2, _⟩ | ⟨g', cap, cur, hv, _, hh, _⟩
  · subst h2; cases hg
  · subst hv
    have : g' = g := by simpa [Value.ownBlock] using hg
    subst this
    exact lt_of_get hh
section
variable {B b mb k m gb gl : Nat} {W0 w w' : World} {S : Nat → Nat} {sv : Value} {A A' : Ents} {n n' : Int} {xs : List ByteArray}
theorem TabB.size (h : TabB B w b mb A n) : B ≤ w.heap.size := Nat.le_trans (h.low b (.inl rfl)) (Nat.le_of_lt (lt_of_get h.tab.hd))
theorem TabB.grow (h : TabB B w b mb A n) (hb : Below w.heap.size w w') : TabB B w' b mb A n := ⟨h.tab.keep (Keep.of_below hb (fun _ => False)) (fun _ _ x => x), h.low⟩
theorem Ex1.grow (h : Ex1 B W0 w b mb S k sv A) (hb : Below w.heap.size w w') : Ex1 B W0 w' b mb S k sv A :=
  ⟨h.ent, h.tab.grow hb, ownsRow_same h.own fun g hg => hb.block g (own_lt h.own g hg), h.off, h.below.trans (hb.mono h.tab.size)⟩
theorem ExS.grow (h : ExS B W0 w b mb A n S m gb xs gl) (hb : Below w.heap.size w w') : ExS B W0 w' b mb A n S m gb xs gl :=
  ⟨h.tab.grow hb, fun j hj => (hb.cell (p := ⟨gb, j, none⟩) (World.block_lt_of_cell? _ _ (h.cb j hj))).trans (h.cb j hj), fun j hj => (hb.cell (p := ⟨gl, j, none⟩) (World.block_lt_of_cell? _ _ (h.cl j hj))).trans (h.cl j hj), h.ob, h.ol, h.below.trans (hb.mono h.tab.size)⟩
theorem ExS.op (h : ExS B W0 w b mb A n S m gb xs gl) (hT : TabB B w' b mb A' n') (hK : Keep (foot b mb A) w w') (hf : ∀ i, foot b mb A' i → foot b mb A i) : ExS B W0 w' b mb A' n' S m gb xs gl :=
  ⟨hT, fun j hj => hK.cell (h.cb j hj) (h.ob (by omega)), fun j hj => hK.cell (h.cl j hj) (h.ol (by omega)), fun hm hi => h.ob hm (hf _ hi), fun hm hi => h.ol hm (hf _ hi), h.below.trans (hK.belowN h.tab.size fun i hi => h.tab.low i hi)⟩
theorem ex1_ask (h : Ex1 B W0 w b mb S k sv A) (hT : TabB B w' b mb (mput (keyB k) (w.heap.size, ⟨(k : Int) + 1, (S k : Int), 0⟩) A) ((k : Int) + 1)) (hK : Keep (foot b mb A) w w') :
    TabB B w' b mb (mput (keyB k) (w.heap.size, ⟨(k : Int) + 1, (S k : Int), 0⟩) A) ((k : Int) + 1) ∧ w'.ownsRow B 3 1 sv k (xsI S k) ∧ (∀ g, sv.ownBlock = some g → ¬ foot b mb (mput (keyB k) (w.heap.size, (⟨(k : Int) + 1, (S k : Int), 0⟩ : Ls)) A) g) ∧ Below B W0 w' := by
  refine ⟨hT, ownsRow_same h.own fun g hg => hK.block g (own_lt h.own g hg) (h.off g hg), fun g hg hf => ?_, h.below.trans (hK.belowN h.tab.size fun i hi => h.tab.low i hi)⟩
  rcases foot_mput g hf with h1 | h1
  · exact h.off g hg h1
  · have := own_lt h.own g hg; omega
theorem ex1_app (h : Ex1 B W0 w b mb S k sv A) (hk : k < 4) {w1 w2 : World} {o : Obj} {g cap : Nat} (hT : TabB B w1 b mb (mput (keyB k) (w.heap.size, ⟨(k : Int) + 1, (S k : Int), 0⟩) A) ((k : Int) + 1)) (hK : Keep (foot b mb A) w w1)
    (hown : w2.ownsRow B 3 1 (.slice (some ⟨g, 0, none⟩) (k + 1) cap) (k + 1) (xsI S k ++ [.int .i64 (S k : Int)])) (hg : (w1.alloc o).grownBy w2 sv.ownBlock) (hl : sv.ownBlock = some g ∨ g = (w1.alloc o).heap.size) :
    ∃ A', Ex1 B W0 w2 b mb S (k + 1) (.slice (some ⟨g, 0, none⟩) (k + 1) cap) A' := by
  obtain ⟨h1, h2, h3, h4⟩ := ex1_ask h hT hK
  obtain ⟨ps, rfl⟩ := h.ent
  have hK2 : Keep (fun i => sv.ownBlock = some i) w1 w2 := Keep.grown (S := fun i => sv.ownBlock = some i) ((Keep.refl _ w1).alloc o) hg fun i hi _ => hi
  refine ⟨_, ⟨⟨_, entL_put hk⟩, ⟨?_, h1.low⟩, ?_, ?_, ?_⟩⟩
  · exact h1.tab.keep hK2 (fun i hi e => h3 i e hi)
  · have : xsI S (k + 1) = xsI S k ++ [.int .i64 (S k : Int)] := by simp [xsI, List.range_succ]
    rw [this]; exact hown
  · intro g' hg'
    have e : g = g' := by simpa [Value.ownBlock] using hg'
    subst e
    rcases hl with hl | hl
    · exact h3 g hl
    · intro hf
      have := foot_lt h1.tab g hf
      simp at hl
      omega
  · exact h4.trans (hK2.belowN h1.size fun i hi => by
      rcases h.own.2 with ⟨e, _⟩ | ⟨g', cap', cur, hv, hb, _⟩
      · subst e; cases hi
      · subst hv
        have : g' = i := by simpa [Value.ownBlock] using hi
        omega)
theorem ex1_start (hT : TabB B w b mb [] 0) (hb : Below B W0 w) : Ex1 B W0 w b mb S 0 (.slice none 0 0) [] :=
  ⟨⟨fun _ => 0, rfl⟩, hT, ⟨rfl, .inl ⟨rfl, rfl⟩⟩, (fun g hg => by cases hg), hb⟩
/-- Expire, on the table behind the calls of Ask. -/
theorem expire_x (h : Ex1 B W0 w b mb S m sv A) (hm : m ≤ 4) (nw : Nat) (hnw : nw < 100) :
    Calls Try.prog 20 #[.pointer (some ⟨b, 0, none⟩), .int .i64 (nw : Int)] w fun e w' => ∃ A1 xs la gl cap gb ba bcap, e = .returned (.slice la xs.length cap) ∧ (0 < xs.length → la = some ⟨gl, 0, none⟩) ∧
      sv = .slice ba m bcap ∧ (0 < m → ba = some ⟨gb, 0, none⟩) ∧ ExX S nw m xs ∧ ExA S nw m 0 A1 ∧ ExS B W0 w' b mb A1 m S m gb xs gl := by
  obtain ⟨ps, hA⟩ := h.ent
  subst hA
  have hlen : (entL ps S m).length = m := by simp [entL]
  refine (expire_calls (nw : Int) b mb (entL ps S m) m w h.tab.tab ?_ (by omega)).mono ?_
  · unfold isTimeB maxInt
    rw [Bool.and_eq_true, decide_eq_true_eq, decide_eq_true_eq]
    constructor <;> omega
  rintro e w' ⟨A1, lv, xs, rfl, h1, h2, h3, h4, h5, h6⟩
  obtain ⟨hX, hA⟩ := ex_perm hm h1.keys h2 h3 h4 h.tab.tab.keys
  have hsub : ∀ i, foot b mb A1 i → foot b mb (entL ps S m) i := foot_sub (fun q hq => ⟨q, (List.mem_filter.1 (h2.mem_iff.1 hq)).1, rfl⟩)
  have hT' : TabB B w' b mb A1 m := ⟨h1, fun i hi => h.tab.low i (hsub i hi)⟩
  have hbel : Below B W0 w' := h.below.trans (h6.belowN h.tab.size fun i hi => h.tab.low i (.inr (.inl hi)))
  obtain ⟨la, gl, cap, rfl, hla, hcl, hgl⟩ : ∃ la gl cap, lv = .slice la xs.length cap ∧ (0 < xs.length → la = some ⟨gl, 0, none⟩) ∧ (∀ j, j < xs.length → w'.cell? ⟨gl, j, none⟩ = some (.string (xs.getD j ⟨#[]⟩))) ∧ (0 < xs.length → w.heap.size ≤ gl) := by
    rcases h5.2 with ⟨h51, h52⟩ | ⟨g, cap, cur, rfl, hg, _⟩
    · exact ⟨none, 0, 0, by rw [h51, h52], fun h => by omega, fun j h => by omega, fun h => by omega⟩
    · refine ⟨_, g, cap, rfl, fun _ => rfl, fun j hj => ?_, fun _ => by omega⟩
      rw [h5.cellAt j (by omega)]
      simp [List.getD, hj]
  obtain ⟨ba, gb, bcap, rfl, hba, hcb⟩ : ∃ ba gb bcap, sv = .slice ba m bcap ∧ (0 < m → ba = some ⟨gb, 0, none⟩) ∧ (∀ j, j < m → w.cell? ⟨gb, j, none⟩ = some (.int .i64 (S j : Int))) := by
    rcases h.own.2 with ⟨h51, h52⟩ | ⟨g, cap, cur, rfl, hg, _⟩
    · exact ⟨none, 0, 0, by rw [h51, h52], fun h => by omega, fun j h => by omega⟩
    · refine ⟨_, g, cap, rfl, fun _ => rfl, fun j hj => ?_⟩
      rw [h.own.cellAt j (by omega)]
      simp [xsI, hj]
  have hob : 0 < m → ¬ foot b mb (entL ps S m) gb := fun h0 => h.off gb (by rw [hba h0]; rfl)
  refine ⟨A1, xs, la, gl, cap, gb, ba, bcap, rfl, hla, rfl, hba, hX, hA, ⟨hT', fun j hj => ?_, hcl, fun h0 hf => hob h0 (hsub _ hf), fun h0 hf => ?_, hbel⟩⟩
  · exact h6.cell (hcb j hj) (fun e => hob (by omega) (.inr (.inl e)))
  · have := foot_lt h.tab.tab gl (hsub _ hf)
    have := hgl h0
    omega
end

theorem intInf : (Try.prog.info? 3).map (fun i => (i.zero, i.size, i.bytes)) = some (some (.int .i64 0), 1, 8) := by kernel_rfl
/-- One integer more at the end of a slice of the call's own, and where the new slice lies. -/
theorem wpList_app_int {ops : Array Oper} {rest : List Oper} {o : Oper} {a : Act} {Q : Exit → Act → World → Prop} (w : World) (hg : o.guard = none) (s x : Operand)
    (ho : o.op = .call { callee := .builtin .append, args := #[s, x], argTypes := #[24, 24] }) (base : Nat)
    (v : Value) (n : Nat) (xs : List Value) (hs : a.eval s = v) (hown : w.ownsRow base 3 1 v n xs)
    (ad : Addr) (c : Nat) (u : Value) (hx : a.eval x = .slice (some ad) 1 c) (hu : w.cell? ad = some u) (h1 : u.oneCell' = true) (hn : n ≤ 1000000000) (hbase : base ≤ w.heap.size)
    (hK : ∀ g cap w', w'.ownsRow base 3 1 (.slice (some ⟨g, 0, none⟩) (n + 1) cap) (n + 1) (xs ++ [u]) → w.grownBy w' v.ownBlock → (v.ownBlock = some g ∨ g = w.heap.size) → g < w'.heap.size →
      wpList Try.prog ops Q rest (a.put o.dst (.slice (some ⟨g, 0, none⟩) (n + 1) cap)) w') : wpList Try.prog ops Q (o :: rest) a w := by
  obtain ⟨i, hi0, hz0, hsz, hby⟩ := info_parts intInf
  refine wpList_append_lies w hg s x 24 ho base 3 i (.int .i64 0) 1 8 Try.underlying24 hi0 hz0 hsz hby rfl (by omega) v n xs hs hown ad 1 c [u] hx rfl ?_ (by simpa using h1) (by omega) (by unfold maxLen; omega) (by omega) hbase _ rfl hK
  intro j u' hj
  cases j with
  | zero => simp at hj; subst hj; rw [addr_add_zero]; exact hu
  | succ j => simp at hj

theorem fill_old {B b mb : Nat} {A : Ents} {n : Int} {w : World} {k : ByteArray} (hT : TabB B w b mb A n) (hm : mlook k A = none) (tok p : Int) :
    Calls Try.prog 18 #[.pointer (some ⟨b, 0, none⟩), .string k, .int .i64 tok, .int .i64 p] w fun e w' => e = .returned (.bool false) ∧ TabB B w' b mb A n ∧ Keep (foot b mb A) w w' := by
  have h := fill_any B k tok p b mb A n w hT
  unfold FillAny at h
  have e : fitsA k tok A = false := by unfold fitsA; rw [hm]
  rw [e, hm] at h
  exact h
theorem fill_new {B b mb : Nat} {A : Ents} {n : Int} {w : World} {k : ByteArray} {q : Nat} {tok bg : Int} (hT : TabB B w b mb A n) (hm : mlook k A = some (q, ⟨tok, bg, 0⟩)) :
    Calls Try.prog 18 #[.pointer (some ⟨b, 0, none⟩), .string k, .int .i64 tok, .int .i64 0] w fun e w' => e = .returned (.bool true) ∧ TabB B w' b mb (mdel k A) n ∧ Keep (foot b mb A) w w' := by
  have h := fill_any B k tok 0 b mb A n w hT
  unfold FillAny at h
  have e : fitsA k tok A = true := by unfold fitsA; rw [hm]; simp
  have e2 : fillB tok 0 (some (q, (⟨tok, bg, 0⟩ : Ls))) = true := by simp [fillB]
  rw [e, hm, e2] at h
  exact h
theorem oldB_cases (S now : Nat) : (oldB S now = true ∧ (20 : Int) < (now : Int) - (S : Int)) ∨ (oldB S now = false ∧ (now : Int) - (S : Int) ≤ 20) := by
  unfold oldB
  by_cases h : (20 : Int) < (now : Int) - (S : Int)
  · exact .inl ⟨by simpa using h, h⟩
  · exact .inr ⟨by simpa using h, by omega⟩

theorem lessB {x y : ByteArray} (h : y.data.toList < x.data.toList) : Op.bytesLess x.toList y.toList = false ∧ (x.toList == y.toList) = false := by
  rw [Go.Lib.toList_data, Go.Lib.toList_data, Go.Proofs.bytesLess_eq]
  refine ⟨by simp; exact List.le_of_lt h, ?_⟩
  simp only [beq_eq_false_iff_ne, ne_eq]
  intro e
  rw [e] at h
  exact List.lt_irrefl _ h
def anyB (k : ByteArray) (l : List ByteArray) : Bool := l.any fun x => x.toList == k.toList
theorem anyB_iff (k : ByteArray) (l : List ByteArray) : anyB k l = true ↔ k ∈ l := by
  unfold anyB
  simp only [List.any_eq_true, beq_iff_eq, Go.Lib.toList_data]
  constructor
  · rintro ⟨x, hx, e⟩
    have : x = k := by cases x; cases k; simp only at e; rw [Array.toList_inj.1 e]
    rw [← this]; exact hx
  · intro h; exact ⟨k, h, rfl⟩
theorem anyB_succ (k : ByteArray) (l : List ByteArray) (j : Nat) (h : j < l.length) : anyB k (l.take (j + 1)) = (anyB k (l.take j) || ((l.getD j ⟨#[]⟩).toList == k.toList)) := by
  unfold anyB
  rw [List.take_add_one, List.any_append, List.getElem?_eq_getElem h]
  simp [List.getD, h]

theorem expires_calls (B : Nat) (a : Option Addr) (g off len cap : Nat) (f : Nat → Nat → Int) (at_ : Int) (w : World) (hx : ArgN w a g off len 1 f) (_hl : len ≤ 9223372036854775807) (hat : okI at_) (hB : B ≤ w.heap.size) (hg : len = 0 ∨ g < B) :
    Calls Try.prog 7 #[.slice a len cap, .int .i64 at_] w fun e w' => e = .returned (.bool true) ∧ Below B w w' := by
  have HX := Lib.hid hx
  have HB := Lib.hid hB
  have HG := Lib.hid hg
  have HAT := Lib.hid hat
  clear hx hB hg hat
  go_enter Try.func7, Try.ntmps7
  go_wp2_with (first | (go_at_call 8; refine (sane_calls _).mono ?_; rintro e w1 ⟨rfl, hb1⟩; have HB1 := Lib.hid (hb1.mono HB.out); clear hb1) | (go_at_call 9; refine (new_b B _ (Nat.le_trans HB.out HB1.out.size)).mono ?_; rintro e w2 ⟨b, mb, rfl, hT, hb2⟩; have HS := Lib.hid (ex1_start (S := fun i => pickN (f i 0) 60) hT (HB1.out.trans hb2)); clear hT hb2 HB1))
  generalize hS : (fun i => pickN (f i 0) 60) = S at *
  have HSD : Hid (∀ i, S i = pickN (f i 0) 60) := fun i => by rw [← hS]
  clear hS
  go_loopw [7, 8] (fun sv i wr => ∃ (k : Nat) (v : Value) (A : Ents), i = .int .i64 k ∧ v = sv ∧ k ≤ 4 ∧ k ≤ len ∧ Ex1 B w wr b mb S k v A) (fun _ i _ => 4 - (intOf i).toNat)
  case atStart => exact ⟨0, _, [], rfl, rfl, by omega, by omega, HS.out⟩
  case round =>
    obtain ⟨k, v, A, rfl, rfl, hk4, hkl, hI⟩ := hrel
    have HI := Lib.hid hI
    clear hI HS
    by_cases hk : k < len ∧ k < 4
    · obtain ⟨hk1, hk2⟩ := hk
      have hX := HX.out.below HI.out.below HG.out
      obtain rfl : a = some ⟨g, off, none⟩ := hX.ad.resolve_left (by omega)
      have hc0 := hX.cell k 0 hk1 (by omega)
      rw [Nat.add_zero, Nat.mul_one] at hc0
      have ho0 := hX.ok k 0 hk1 (by omega)
      clear hX
      have hSk := HSD.out k
      generalize f k 0 = x0 at *
      have HO0 := Lib.hid ho0
      have HSK := Lib.hid hSk
      have hs60 : S k < 60 := by rw [hSk]; exact pickN_lt _ _ (by omega)
      clear ho0 hSk
      have hasks : asksB (S k : Int) (mlook (keyB k) A) = true := by
        obtain ⟨ps, rfl⟩ := HI.out.ent
        rw [entL_new hk2]
        unfold asksB isTimeB maxInt
        simp only [Bool.and_true]
        rw [Bool.and_eq_true, decide_eq_true_eq, decide_eq_true_eq]
        constructor <;> omega
      have HASK := Lib.hid hasks
      clear hasks
      go_wp2_with (first | (go_at_call 12; (with_reducible refine (pick_calls x0 60 60 _ (by omega) (by omega) (by omega) HO0.out).mono ?_); rintro e w' ⟨rfl, rfl⟩; rw [← HSK.out]) | (go_at_call 11; refine (key_nat _ _ hk2).mono ?_; rintro e w3 ⟨rfl, hb3⟩; have I3 := Lib.hid (HI.out.grow hb3); clear hb3))
      refine (ask_any B (keyB k) _ b mb A k w3 I3.out.tab I3.out.tab.size (by omega)).mono ?_
      rintro e w4 (⟨rfl, _, hT4, hK4⟩ | ⟨_, ha, _⟩)
      · have HT4 := Lib.hid hT4
        have HK4 := Lib.hid hK4
        have HOWN4 := Lib.hid (ex1_ask I3.out hT4 hK4).2.1
        clear hT4 hK4
        go_wp2_with (first | (at_builtin; go_must (refine wpList_app_int _ rfl _ _ rfl B v k (xsI S k) rfl (HOWN4.out.alloc _) ⟨_, 0, none⟩ 1 (.int .i64 (S k : Int)) rfl (World.cell?_alloc_new _ _ _ _) rfl (by omega) (by rw [World.size_alloc]; exact Nat.le_succ_of_le HT4.out.size) ?_; intro g2 cap2 w5 hown5 hg5 hl5 hlt5; obtain ⟨A5, hI5⟩ := ex1_app I3.out hk2 HT4.out HK4.out hown5 hg5 hl5; have HI5 := Lib.hid hI5; clear hown5 hg5 hl5 hlt5 hI5)))
        go_roundw
        case rel => exact ⟨k + 1, _, _, by go_num, rfl, by omega, by omega, HI5.out⟩
        case measure => simp [intOf]; omega
      · rw [HASK.out] at ha; simp at ha
    · have h2 : len ≤ k ∨ (k < len ∧ 4 ≤ k) := by omega
      obtain ⟨nw, hnw⟩ : ∃ nw, pickN at_ 100 = nw := ⟨_, rfl⟩
      have hnw2 : nw < 100 := by rw [← hnw]; exact pickN_lt _ _ (by omega)
      have HNW := Lib.hid hnw
      have HS60 : Hid (∀ i, S i < 60) := fun i => by rw [HSD.out i]; exact pickN_lt _ _ (by omega)
      clear hnw
      rcases h2 with h2 | ⟨h2, h3⟩
      all_goals
        go_wp2_with (first | (go_at_call 12; (with_reducible refine (pick_calls at_ 100 100 _ (by omega) (by omega) (by omega) HAT.out).mono ?_); rintro e w' ⟨rfl, rfl⟩; rw [HNW.out]))
        refine (expire_x HI.out hk4 nw hnw2).mono ?_
        rintro e w6 ⟨A6, xs, la, gl, lcap, gb, ba, bcap, rfl, hla, rfl, hba, hX6, hA6, hS6⟩
        have HX6 := Lib.hid hX6
        have hxl4 : xs.length ≤ 4 := by have h1 := hX6.len; have h2 := cnt_le S nw k; omega
        have HA6 := Lib.hid hA6
        have HS6 := Lib.hid hS6
        have HLA := Lib.hid hla
        have HBA := Lib.hid hba
        clear hX6 hA6 hS6 hla hba HI HX HG HSD
        go_wp2
        go_loopw [14, 15] (fun c i wr => ∃ (i1 : Nat) (A : Ents), i = .int .i64 i1 ∧ c = .int .i64 (cnt S nw i1) ∧ i1 ≤ k ∧ ExA S nw k i1 A ∧ ExS B w wr b mb A k S k gb xs gl) (fun _ i _ => k - (intOf i).toNat)
        case atStart => exact ⟨0, _, rfl, rfl, by omega, HA6.out, HS6.out⟩
        case round =>
          obtain ⟨i, A, rfl, rfl, hik, hA, hI⟩ := hrel
          have HA := Lib.hid hA
          have HI := Lib.hid hI
          clear hA hI HA6 HS6
          by_cases hi : i < k
          · obtain rfl : ba = some ⟨gb, 0, none⟩ := HBA.out (by omega)
            have hci := HI.out.cb i hi
            have hs60 := HS60.out i
            obtain ⟨s, hs⟩ : ∃ s, S i = s := ⟨_, rfl⟩
            have HSI := Lib.hid hs
            rw [hs] at hci hs60
            clear hs
            have hi4 : i < 4 := by omega
            rcases oldB_cases s nw with ⟨ho, ho2⟩ | ⟨ho, ho2⟩
            · go_wp2
              go_loopw [17, 18] (fun fd kk wr => ∃ (k3 : Nat) (bb : Bool), kk = .int .i64 k3 ∧ fd = .bool bb ∧ bb = anyB (keyB i) (xs.take k3) ∧ k3 ≤ xs.length ∧ ExS B w wr b mb A k S k gb xs gl) (fun _ kk _ => xs.length - (intOf kk).toNat)
              case atStart => exact ⟨0, false, rfl, rfl, by simp [anyB], by omega, HI.out⟩
              case round =>
                obtain ⟨k3, bb, rfl, rfl, hbb, hk3, hI⟩ := hrel
                have HI3 := Lib.hid hI
                have HBB := Lib.hid hbb
                clear hbb hI HI hci
                by_cases hk : k3 < xs.length
                · obtain rfl : la = some ⟨gl, 0, none⟩ := HLA.out (by omega)
                  have hcl := HI3.out.cl k3 hk
                  have hsucc := anyB_succ (keyB i) xs k3 hk
                  rw [← HBB.out] at hsucc
                  generalize xs.getD k3 ⟨#[]⟩ = xk at hcl hsucc
                  have HSUCC := Lib.hid hsucc
                  clear hsucc
                  have I4 := Lib.hid (HI3.out.grow ((Below.refl _ _).drew))
                  cases bb with
                  | true =>
                    go_wp2_with fail
                    go_quiet (fail)
                    go_wp2
                    go_roundw
                    case rel => exact ⟨k3 + 1, true, by go_num, rfl, by rw [HSUCC.out]; rfl, by omega, HI3.out.grow (below_drew' _ (Below.refl _ _))⟩
                    case measure => simp [intOf]; omega
                  | false =>
                    go_wp2_with fail
                    go_region_held3 (fun w' => w'.cell? ⟨gl, k3, none⟩ = some (.string xk)) (first | go_keep | assumption) (first | (go_at_call 11; refine (key_nat _ _ hi4).mono ?_; rintro e w7 ⟨rfl, hb7⟩; have I5 := Lib.hid (I4.out.grow hb7); have hc7 : w7.cell? ⟨gl, k3, none⟩ = some (.string xk) := (hb7.cell (p := ⟨gl, k3, none⟩) (World.block_lt_of_cell? _ _ hcl)).trans hcl; clear hb7))
                    go_wp2
                    go_roundw
                    case rel => exact ⟨k3 + 1, _, by go_num, rfl, by rw [HSUCC.out]; rfl, by omega, I5.out⟩
                    case measure => simp [intOf]; omega
                · have hk5 : xs.length ≤ k3 := by omega
                  obtain rfl : k3 = xs.length := by omega
                  have hall : bb = true := by
                    rw [HBB.out, List.take_length, anyB_iff]
                    exact (HX6.out.mem i hi).2 (by rw [HSI.out]; exact ho)
                  subst hall
                  have hnx := ex_old HA.out hi (by rw [HSI.out]; exact ho)
                  have HM := Lib.hid hnx.1
                  have HN := Lib.hid hnx.2
                  have hcs : cnt S nw (i + 1) = cnt S nw i + 1 := by rw [cnt_succ, HSI.out, ho]; rfl
                  have hcn := cnt_le S nw i
                  generalize hq : cnt S nw (i + 1) = c1 at hcs
                  have HQ := Lib.hid hq
                  clear hnx hq
                  generalize cnt S nw i = c0 at *
                  go_wp2_with fail
                  refine (key_nat _ _ hi4).mono ?_
                  rintro e w8 ⟨rfl, hb8⟩
                  have I8 := Lib.hid (HI3.out.grow hb8)
                  clear hb8
                  go_wp2_with fail
                  refine (current_calls (keyB i) b mb A k w8 I8.out.tab.tab).mono ?_
                  rintro e w8' ⟨rfl, rfl⟩
                  rw [HM.out]
                  rw [show tokOf none = 0 from rfl]
                  go_wp2_with fail
                  refine (key_nat _ _ hi4).mono ?_
                  rintro e w9 ⟨rfl, hb9⟩
                  have I9 := Lib.hid (I8.out.grow hb9)
                  clear hb9
                  go_wp2_with fail
                  refine (fill_old I9.out.tab HM.out _ _).mono ?_
                  rintro e w10 ⟨rfl, hT10, hK10⟩
                  have I10 := Lib.hid (I9.out.op hT10 hK10 (fun i hi => hi))
                  clear hT10 hK10
                  go_wp2
                  go_roundw
                  case rel => exact ⟨i + 1, A, by go_num, by rw [HQ.out, hcs]; go_num, by omega, HN.out, I10.out⟩
                  case measure => simp [intOf]; omega
            · go_wp2
              go_loopw [17, 18] (fun fd kk wr => ∃ (k3 : Nat) (bb : Bool), kk = .int .i64 k3 ∧ fd = .bool bb ∧ bb = anyB (keyB i) (xs.take k3) ∧ k3 ≤ xs.length ∧ ExS B w wr b mb A k S k gb xs gl) (fun _ kk _ => xs.length - (intOf kk).toNat)
              case atStart => exact ⟨0, false, rfl, rfl, by simp [anyB], by omega, HI.out⟩
              case round =>
                obtain ⟨k3, bb, rfl, rfl, hbb, hk3, hI⟩ := hrel
                have HI3 := Lib.hid hI
                have HBB := Lib.hid hbb
                clear hbb hI HI hci
                by_cases hk : k3 < xs.length
                · obtain rfl : la = some ⟨gl, 0, none⟩ := HLA.out (by omega)
                  have hcl := HI3.out.cl k3 hk
                  have hsucc := anyB_succ (keyB i) xs k3 hk
                  rw [← HBB.out] at hsucc
                  generalize xs.getD k3 ⟨#[]⟩ = xk at hcl hsucc
                  have HSUCC := Lib.hid hsucc
                  clear hsucc
                  have I4 := Lib.hid (HI3.out.grow ((Below.refl _ _).drew))
                  cases bb with
                  | true =>
                    go_wp2_with fail
                    go_quiet (fail)
                    go_wp2
                    go_roundw
                    case rel => exact ⟨k3 + 1, true, by go_num, rfl, by rw [HSUCC.out]; rfl, by omega, HI3.out.grow (below_drew' _ (Below.refl _ _))⟩
                    case measure => simp [intOf]; omega
                  | false =>
                    go_wp2_with fail
                    go_region_held3 (fun w' => w'.cell? ⟨gl, k3, none⟩ = some (.string xk)) (first | go_keep | assumption) (first | (go_at_call 11; refine (key_nat _ _ hi4).mono ?_; rintro e w7 ⟨rfl, hb7⟩; have I5 := Lib.hid (I4.out.grow hb7); have hc7 : w7.cell? ⟨gl, k3, none⟩ = some (.string xk) := (hb7.cell (p := ⟨gl, k3, none⟩) (World.block_lt_of_cell? _ _ hcl)).trans hcl; clear hb7))
                    go_wp2
                    go_roundw
                    case rel => exact ⟨k3 + 1, _, by go_num, rfl, by rw [HSUCC.out]; rfl, by omega, I5.out⟩
                    case measure => simp [intOf]; omega
                · have hk5 : xs.length ≤ k3 := by omega
                  obtain rfl : k3 = xs.length := by omega
                  have hall : bb = false := by
                    rw [HBB.out, List.take_length, Bool.eq_false_iff, Ne, anyB_iff, HX6.out.mem i hi, HSI.out, ho]
                    exact fun h => by cases h
                  subst hall
                  have hnx := ex_stay HA.out hk4 hi (by rw [HSI.out]; exact ho) HI3.out.tab.tab.keys
                  obtain ⟨⟨p, hm⟩, hnx2⟩ := hnx
                  have HM := Lib.hid hm
                  have HN := Lib.hid hnx2
                  have hcs : cnt S nw (i + 1) = cnt S nw i := by rw [cnt_succ, HSI.out, ho]; rfl
                  have HQ := Lib.hid hcs
                  clear hm hnx2 hcs
                  generalize hq : cnt S nw i = c0 at *
                  go_wp2_with fail
                  refine (key_nat _ _ hi4).mono ?_
                  rintro e w8 ⟨rfl, hb8⟩
                  have I8 := Lib.hid (HI3.out.grow hb8)
                  clear hb8
                  go_wp2_with fail
                  refine (current_calls (keyB i) b mb A k w8 I8.out.tab.tab).mono ?_
                  rintro e w8' ⟨rfl, rfl⟩
                  rw [HM.out]
                  rw [show tokOf (some (p, (⟨(i : Int) + 1, (S i : Int), 0⟩ : Ls))) = (i : Int) + 1 from rfl]
                  have hne0 : ((i : Int) + 1 == 0) = false := by simp; omega
                  go_wp2_with fail
                  refine (key_nat _ _ hi4).mono ?_
                  rintro e w9 ⟨rfl, hb9⟩
                  have I9 := Lib.hid (I8.out.grow hb9)
                  clear hb9
                  go_wp2_with fail
                  refine (fill_new I9.out.tab HM.out).mono ?_
                  rintro e w10 ⟨rfl, hT10, hK10⟩
                  have I10 := Lib.hid (I9.out.op hT10 hK10 (fun i hi => foot_mdel i hi))
                  clear hT10 hK10
                  go_wp2
                  go_roundw
                  case rel => exact ⟨i + 1, _, by go_num, by rw [HQ.out], by omega, HN.out, I10.out⟩
                  case measure => simp [intOf]; omega
          · obtain rfl : i = k := by omega
            have hAn := ex_done HA.out
            subst hAn
            have hxl := HX6.out.len
            have HCL : Hid (∀ j, j < xs.length → (i = i)) := fun _ _ => rfl
            clear HCL
            rw [hxl] at hxl4 ⊢
            have HXL := Lib.hid hxl
            generalize cnt S nw i = xl at *
            have HLA2 : Hid (0 < xl → la = some ⟨gl, 0, none⟩) := fun h => HLA.out (by rw [HXL.out]; exact h)
            clear hxl
            go_wp2
            go_loopw [19] (fun kk wr => ∃ (k4 : Nat), kk = .int .i64 ((k4 : Int) + 1) ∧ k4 ≤ 4 ∧ ExS B w wr b mb [] i S i gb xs gl) (fun kk _ => xl - (intOf kk).toNat)
            case atStart => exact ⟨0, rfl, by omega, HI.out⟩
            case round =>
              obtain ⟨k4, rfl, hk41, hI⟩ := hrel
              have HI4 := Lib.hid hI
              clear hI HI
              by_cases hk : k4 + 1 < xl
              · obtain rfl : la = some ⟨gl, 0, none⟩ := HLA2.out (by omega)
                have hc1 := HI4.out.cl (k4 + 1) (by rw [HXL.out]; exact hk)
                have hc2 := HI4.out.cl k4 (by rw [HXL.out]; omega)
                have hasc := HX6.out.asc (k4 + 1) (by omega) (by rw [HXL.out]; exact hk)
                rw [Nat.add_sub_cancel] at hasc
                generalize xs.getD (k4 + 1) ⟨#[]⟩ = x1 at hc1 hasc
                generalize xs.getD k4 ⟨#[]⟩ = x0 at hc2 hasc
                obtain ⟨hl1, hl2⟩ := lessB hasc
                clear hasc
                go_wp2_with fail
                go_quiet (fail)
                go_wp2
                go_roundw
                case rel => exact ⟨k4 + 1, by go_num, by omega, HI4.out.grow (below_drew' _ (Below.refl _ _))⟩
                case measure => simp [intOf]; omega
              · go_wp2_with fail
                refine (len_calls b mb [] _ _ HI4.out.tab.tab).mono ?_
                rintro e w' ⟨rfl, rfl⟩
                have HBW := Lib.hid HI4.out.below
                go_wp2
                go_ret
                exact ⟨rfl, HBW.out⟩
theorem expires_law {a : Option Addr} {g off len cap : Nat} {f : Nat → Nat → Int} {at_ : Int} (w : World) (hx : ArgN w a g off len 1 f) (hl : len ≤ maxLen) (hat : okI at_) :
    Calls Try.prog 7 #[.slice a len cap, .int .i64 at_] w fun e w' => e = .returned (.bool true) ∧ Below w.heap.size w w' :=
  expires_calls w.heap.size a g off len cap f at_ w hx (by unfold maxLen at hl; omega) hat (Nat.le_refl _) hx.low
end Go.Proofs.Ytgflkhifphpgpaa
