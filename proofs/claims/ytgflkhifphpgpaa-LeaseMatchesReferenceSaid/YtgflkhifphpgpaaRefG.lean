/- The table and the reference table hold the same leases: plain. -/
import Derived.Test.YtgflkhifphpgpaaRefE
import Derived.Test.YtgflkhifphpgpaaRefF
namespace Go.Proofs.Ytgflkhifphpgpaa
open Go Go.RowKit Gw
set_option maxHeartbeats 1000000

theorem mput_perm_cons {α : Type} (k : ByteArray) (v : α) : ∀ (l : List (ByteArray × α)), (mput k v l).Perm ((k, v) :: mdel k l)
  | [] => by simp [mput, mdel]
  | p :: l => by
    simp only [mput, mdel]
    split
    · exact List.Perm.refl _
    · exact ((mput_perm_cons k v l).cons p).trans (List.Perm.swap _ _ _)
theorem mdel_filter {α : Type} (k : ByteArray) : ∀ {l : List (ByteArray × α)}, (l.map (·.1)).Nodup → mdel k l = l.filter fun p => !decide (p.1 = k)
  | [], _ => rfl
  | p :: l, h => by
    simp only [List.map_cons, List.nodup_cons] at h
    simp only [mdel]
    split
    · rename_i e
      subst e
      rw [List.filter_cons_of_neg (by simp)]
      refine (List.filter_eq_self.2 fun q hq => ?_).symm
      have : q.1 ≠ p.1 := fun e => h.1 (by rw [← e]; exact List.mem_map.2 ⟨q, hq, rfl⟩)
      simpa using this
    · rename_i e
      rw [List.filter_cons_of_pos (by simpa using fun e1 => e e1.symm), mdel_filter k h.2]
theorem mdel_perm2 {α : Type} (k : ByteArray) {l l' : List (ByteArray × α)} (h : l.Perm l') (hn : (l'.map (·.1)).Nodup) : (mdel k l).Perm (mdel k l') := by
  rw [mdel_filter k hn, mdel_filter k ((h.map _).nodup_iff.2 hn)]
  exact h.filter _
theorem mput_perm2 {α : Type} (k : ByteArray) (v : α) {l l' : List (ByteArray × α)} (h : l.Perm l') (hn : (l'.map (·.1)).Nodup) : (mput k v l).Perm (mput k v l') :=
  (mput_perm_cons k v l).trans (((mdel_perm2 k h hn).cons _).trans (mput_perm_cons k v l').symm)
theorem mlook_perm {α : Type} (k : ByteArray) {l l' : List (ByteArray × α)} (h : l.Perm l') (hn : (l'.map (·.1)).Nodup) : mlook k l = mlook k l' := by
  cases e : mlook k l' with
  | none => exact mlook_none_of' fun p hp => mlook_none e p (h.mem_iff.1 hp)
  | some v => exact mlook_of_mem ((h.map _).nodup_iff.2 hn) (h.mem_iff.2 (mlook_mem e))

def stripA (A : Ents) : RL := mapv (fun x : Nat × Ls => x.2) A
def Sim (A : Ents) (R : RL) : Prop := R.Perm (stripA A)
theorem strip_keys (A : Ents) : (stripA A).map (·.1) = A.map (·.1) := by unfold stripA mapv; rw [List.map_map]; rfl
section
variable {A A' : Ents} {R R' : RL} {k : ByteArray}
theorem sim_look (h : Sim A R) (hn : (A.map (·.1)).Nodup) (k : ByteArray) : mlook k R = (mlook k A).map (·.2) := by
  rw [mlook_perm k h (by rw [strip_keys]; exact hn)]
  exact mlook_mapv _ k A
theorem sim_len (h : Sim A R) : A.length = R.length := by
  rw [h.length_eq]; simp [stripA, mapv]
theorem sim_put {x : Ls} {p : Nat} (h : Sim A R) (hn : (A.map (·.1)).Nodup) (hR : R'.Perm (mput k x R)) : Sim (mput k (p, x) A) R' := by
  refine hR.trans ((mput_perm2 k x h (by rw [strip_keys]; exact hn)).trans ?_)
  unfold stripA
  rw [← mput_mapv]
theorem sim_del (h : Sim A R) (hn : (A.map (·.1)).Nodup) : Sim (mdel k A) (mdel k R) := by
  refine (mdel_perm2 k h (by rw [strip_keys]; exact hn)).trans ?_
  unfold stripA
  rw [mdel_mapv]
theorem sim_inv {p : Int} (h : Sim A R) (hn : (A.map (·.1)).Nodup) : Sim (invA k p A) (invR k p R) := by
  unfold invA invR
  rw [sim_look h hn k]
  cases mlook k A with
  | none => exact h
  | some x => exact sim_put h hn (List.Perm.refl _)
theorem sim_asks (h : Sim A R) (hn : (A.map (·.1)).Nodup) (now : Int) : rasksB now (mlook k R) = asksB now (mlook k A) := by
  unfold rasksB asksB
  rw [sim_look h hn k]
  cases mlook k A <;> rfl
theorem sim_tok (h : Sim A R) (hn : (A.map (·.1)).Nodup) (k : ByteArray) : rtokOf (mlook k R) = tokOf (mlook k A) := by
  rw [sim_look h hn k]
  cases mlook k A <;> rfl
theorem sim_fillB {tok p : Int} (h : Sim A R) (hn : (A.map (·.1)).Nodup) : rfillB tok p (mlook k R) = fillB tok p (mlook k A) := by
  rw [sim_look h hn k]
  cases mlook k A <;> rfl
theorem sim_fill {tok : Int} (h : Sim A R) (hn : (A.map (·.1)).Nodup) : Sim (if fitsA k tok A then mdel k A else A) (rfillR k tok R) := by
  unfold rfillR rfitsA fitsA
  rw [sim_look h hn k]
  cases mlook k A with
  | none => exact h
  | some x =>
    simp only [Option.map_some]
    split
    · exact sim_del h hn
    · exact h
theorem bytes_ext {a b : ByteArray} (h : a.data.toList = b.data.toList) : a = b := by
  cases a; cases b; simp only at h; rw [Array.toList_inj.1 h]
theorem sorted_eq : ∀ {xs ys : List ByteArray}, xs.Perm ys → xs.Pairwise (fun x y => x.data.toList ≤ y.data.toList) → ys.Pairwise (fun x y => x.data.toList ≤ y.data.toList) → xs = ys
  | [], ys, h, _, _ => h.nil_eq
  | x :: xs, [], h, _, _ => absurd h.length_eq (by simp)
  | x :: xs, y :: ys, h, h1, h2 => by
    have hxy : x = y := by
      have hx : x ∈ y :: ys := h.mem_iff.1 (by simp)
      have hy : y ∈ x :: xs := h.mem_iff.2 (by simp)
      rcases List.mem_cons.1 hx with e | hx
      · exact e
      rcases List.mem_cons.1 hy with e | hy
      · exact e.symm
      exact bytes_ext (List.le_antisymm ((List.pairwise_cons.1 h1).1 y hy) ((List.pairwise_cons.1 h2).1 x hx))
    subst hxy
    rw [sorted_eq h.cons_inv (List.pairwise_cons.1 h1).2 (List.pairwise_cons.1 h2).2]
theorem sim_expire {now : Int} {xs : List ByteArray} (h : Sim A R) (hs : R.Pairwise ltB) (h1 : A'.Perm (A.filter fun q => !oldB q.2.2.began now)) (h2 : xs.Perm ((A.filter fun q => oldB q.2.2.began now).map (·.1)))
    (h3 : xs.Pairwise (fun x y => x.data.toList ≤ y.data.toList)) : Sim A' (restR now R) ∧ xs = oldsR now R := by
  have e1 : (stripA A).filter (fun q => !oldB q.2.began now) = stripA (A.filter fun q => !oldB q.2.2.began now) := by
    unfold stripA mapv; rw [List.filter_map]; rfl
  have e2 : ((stripA A).filter (fun q => oldB q.2.began now)).map (·.1) = (A.filter fun q => oldB q.2.2.began now).map (·.1) := by
    unfold stripA mapv; rw [List.filter_map, List.map_map]; rfl
  constructor
  · unfold Sim restR
    refine (List.Perm.filter _ h).trans ?_
    rw [e1]
    exact (h1.map _).symm
  · refine sorted_eq (h2.trans ?_) h3 ?_
    · rw [← e2]
      exact ((List.Perm.filter _ h).map _).symm
    · unfold oldsR
      rw [List.pairwise_map]
      exact (hs.sublist List.filter_sublist).imp fun h => List.le_of_lt h
end

/-- Both tables in memory, and nothing shared. -/
structure MtL (B : Nat) (W0 w : World) (b mb : Nat) (A : Ents) (n : Int) (rb : Nat) (sv : Value) (R : RL) (n2 : Int) : Prop where
  t : TabB B w b mb A n
  r : RefT B w rb sv R n2
  dj : ∀ i, foot b mb A i → ¬ rfoot rb sv i
  below : Below B W0 w
structure Mt (B : Nat) (W0 w : World) (X : Nat) (xc : Array Value) (T : Nat) (b mb : Nat) (A : Ents) (n : Int) (rb : Nat) (sv : Value) (R : RL) (n2 : Int) : Prop where
  l : MtL B W0 w b mb A n rb sv R n2
  x : w.heap[X]? = some (.cells xc T (0, 0))
  x1 : ¬ foot b mb A X
  x2 : ¬ rfoot rb sv X
section
variable {B X T b mb rb : Nat} {W0 w w' : World} {xc : Array Value} {A A' : Ents} {n n' n2 n2' : Int} {sv sv' : Value} {R R' : RL}
theorem tabB_grow (h : TabB B w b mb A n) (hb : Below w.heap.size w w') : TabB B w' b mb A n := ⟨h.tab.keep (Keep.of_below hb (fun _ => False)) (fun _ _ x => x), h.low⟩
theorem MtL.size (h : MtL B W0 w b mb A n rb sv R n2) : B ≤ w.heap.size := h.r.size
theorem MtL.grow (h : MtL B W0 w b mb A n rb sv R n2) (hb : Below w.heap.size w w') : MtL B W0 w' b mb A n rb sv R n2 :=
  ⟨tabB_grow h.t hb, h.r.grow hb, h.dj, h.below.trans (hb.mono h.size)⟩
theorem Mt.grow (h : Mt B W0 w X xc T b mb A n rb sv R n2) (hb : Below w.heap.size w w') : Mt B W0 w' X xc T b mb A n rb sv R n2 :=
  ⟨h.l.grow hb, (Keep.of_below hb (fun _ => False)).get h.x (fun x => x), h.x1, h.x2⟩
theorem MtL.op1 (h : MtL B W0 w b mb A n rb sv R n2) (hT : TabB B w' b mb A' n') (hK : Keep (foot b mb A) w w') (hf : ∀ i, foot b mb A' i → foot b mb A i ∨ w.heap.size ≤ i) : MtL B W0 w' b mb A' n' rb sv R n2 :=
  ⟨hT, h.r.keep hK (fun i hi hi' => h.dj i hi' hi), fun i hi hi2 => by
    rcases hf i hi with h1 | h1
    · exact h.dj i h1 hi2
    · have := h.r.lt i hi2; omega, h.below.trans (hK.belowN h.size fun i hi => h.t.low i hi)⟩
theorem MtL.op2 (h : MtL B W0 w b mb A n rb sv R n2) (hP : RPost B rb sv R' n2' w w') : ∃ sv', MtL B W0 w' b mb A n rb sv' R' n2' ∧ Keep (rfoot rb sv) w w' ∧ ∀ i, rfoot rb sv' i → rfoot rb sv i ∨ w.heap.size ≤ i := by
  obtain ⟨sv', h1, hK, hf⟩ := hP
  refine ⟨sv', ⟨⟨h.t.tab.keep hK (fun i hi hi' => h.dj i hi hi'), h.t.low⟩, h1, fun i hi hi2 => ?_, h.below.trans (hK.belowN h.size fun i hi => h.r.low i hi)⟩, hK, hf⟩
  rcases hf i hi2 with h2 | h2
  · exact h.dj i hi h2
  · have := foot_lt h.t.tab i hi; omega
theorem Mt.op1 (h : Mt B W0 w X xc T b mb A n rb sv R n2) (hT : TabB B w' b mb A' n') (hK : Keep (foot b mb A) w w') (hf : ∀ i, foot b mb A' i → foot b mb A i ∨ w.heap.size ≤ i) : Mt B W0 w' X xc T b mb A' n' rb sv R n2 :=
  ⟨h.l.op1 hT hK hf, hK.get h.x h.x1, fun hi => by
    rcases hf X hi with h1 | h1
    · exact h.x1 h1
    · have := lt_of_get h.x; omega, h.x2⟩
theorem Mt.op2 (h : Mt B W0 w X xc T b mb A n rb sv R n2) (hP : RPost B rb sv R' n2' w w') : ∃ sv', Mt B W0 w' X xc T b mb A n rb sv' R' n2' ∧ Keep (rfoot rb sv) w w' := by
  obtain ⟨sv', h1, hK, hf⟩ := h.l.op2 hP
  refine ⟨sv', ⟨h1, hK.get h.x h.x2, h.x1, fun hi => ?_⟩, hK⟩
  rcases hf X hi with h2 | h2
  · exact h.x2 h2
  · have := lt_of_get h.x; omega
theorem MtL.with (h : MtL B W0 w b mb A n rb sv R n2) (xc : Array Value) (T : Nat) : Mt B W0 (w.alloc (.cells xc T)) w.heap.size xc T b mb A n rb sv R n2 :=
  ⟨h.grow ((Below.refl _ _).alloc (Nat.le_refl _) _), hp_alloc_new _ _, fun hi => by have := foot_lt h.t.tab _ hi; omega, fun hi => by have := h.r.lt _ hi; omega⟩
theorem MtL.start {w1 : World} (hT : TabB B w b mb [] 0) (hb : Below B W0 w) (hR : RefT B w1 rb (.slice none 0 0) [] 0) (hb1 : Below w.heap.size w w1) (hrb : w.heap.size ≤ rb) : MtL B W0 w1 b mb [] 0 rb (.slice none 0 0) [] 0 :=
  ⟨tabB_grow hT hb1, hR, (fun i hi hi2 => by
    have h1 := foot_lt hT.tab i hi
    rcases hi2 with h2 | h2
    · omega
    · cases h2), hb.trans (hb1.mono (Nat.le_trans (hT.low b (.inl rfl)) (Nat.le_of_lt (lt_of_get hT.tab.hd))))⟩
end
end Go.Proofs.Ytgflkhifphpgpaa
