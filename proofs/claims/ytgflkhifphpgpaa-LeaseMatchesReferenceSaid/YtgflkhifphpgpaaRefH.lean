/- What each round of the law LeaseMatchesReference makes of the two tables. -/
import Derived.Test.YtgflkhifphpgpaaRefG
namespace Go.Proofs.Ytgflkhifphpgpaa
open Go Go.RowKit Gw
set_option maxHeartbeats 1000000

structure MP (A : Ents) (n : Int) (R : RL) (now : Int) (k : Nat) : Prop where
  sim : Sim A R
  le : n ≤ k
  len : R.length ≤ k
  now0 : 0 ≤ now
  now1 : now ≤ 8 * k
def xc4 (x0 x1 x2 x3 : Int) : Array Value := #[.int .i64 x0, .int .i64 x1, .int .i64 x2, .int .i64 x3]
def MState (B : Nat) (W0 : World) (X : Nat) (xc : Array Value) (b mb rb k : Nat) (nw : Int) (wr : World) : Prop :=
  ∃ A n sv R, MP A n R nw k ∧ Mt B W0 wr X xc 30 b mb A n rb sv R n
def MLoop (B : Nat) (W0 : World) (b mb rb k : Nat) (nw : Int) (wr : World) : Prop :=
  ∃ A n sv R, MP A n R nw k ∧ MtL B W0 wr b mb A n rb sv R n
theorem mp_start : MP [] 0 [] 0 0 := ⟨List.Perm.refl _, by omega, by simp, by omega, by omega⟩
section
variable {A : Ents} {n : Int} {R R' : RL} {now : Int} {k d : Nat} {kk : ByteArray}
theorem mp_same (h : MP A n R now k) (hd : d < 9) : MP A n R (now + d) (k + 1) := by
  have := h.now0; have := h.now1; have := h.le; have := h.len
  exact ⟨h.sim, by omega, by omega, by omega, by omega⟩
theorem mput_len {α : Type} (k : ByteArray) (v : α) : ∀ (l : List (ByteArray × α)), (mput k v l).length ≤ l.length + 1
  | [] => by simp [mput]
  | p :: l => by
    simp only [mput]
    split
    · simp
    · have := mput_len k v l; simp; omega
theorem mp_ask {at_ : Int} {p : Nat} (h : MP A n R now k) (hd : d < 9) (hn : (A.map (·.1)).Nodup) (hR : R'.Perm (mput kk ⟨n + 1, at_, 0⟩ R)) : MP (mput kk (p, ⟨n + 1, at_, 0⟩) A) (n + 1) R' (now + d) (k + 1) := by
  have := h.now0; have := h.now1; have := h.le; have := h.len
  have h1 := hR.length_eq
  have h2 := mput_len kk (⟨n + 1, at_, 0⟩ : Ls) R
  exact ⟨sim_put h.sim hn hR, by omega, by omega, by omega, by omega⟩
theorem mput_len_same {α : Type} {k : ByteArray} {x v : α} : ∀ {l : List (ByteArray × α)}, mlook k l = some x → (mput k v l).length = l.length
  | [], h => by simp [mlook_nil] at h
  | p :: l, h => by
    rw [mlook_cons] at h
    simp only [mput]
    split
    · simp
    · rename_i e; simp only [e, if_false] at h; simp [mput_len_same h]
theorem mp_inv {p : Int} (h : MP A n R now k) (hd : d < 9) (hn : (A.map (·.1)).Nodup) : MP (invA kk p A) n (invR kk p R) (now + d) (k + 1) := by
  have := h.now0; have := h.now1; have := h.le; have := h.len
  have hl : (invR kk p R).length = R.length := by
    unfold invR
    split
    · rename_i x hx; exact mput_len_same hx
    · rfl
  exact ⟨sim_inv h.sim hn, by omega, by omega, by omega, by omega⟩
theorem mp_fill {tok : Int} (h : MP A n R now k) (hd : d < 9) (hn : (A.map (·.1)).Nodup) : MP (if fitsA kk tok A then mdel kk A else A) n (rfillR kk tok R) (now + d) (k + 1) := by
  have := h.now0; have := h.now1; have := h.le; have := h.len
  have hl : (rfillR kk tok R).length ≤ R.length := by
    unfold rfillR
    split
    · exact (mdel_sublist _ _).length_le
    · exact Nat.le_refl _
  exact ⟨sim_fill h.sim hn, by omega, by omega, by omega, by omega⟩
theorem foot_fill {b mb : Nat} {tok : Int} : ∀ i, foot b mb (if fitsA kk tok A then mdel kk A else A) i → foot b mb A i := by
  intro i hi
  split at hi
  · exact foot_mdel i hi
  · exact hi
end
theorem inval_m (B : Nat) (k : ByteArray) (p : Int) (b mb : Nat) (A : Ents) (n : Int) (w : World) (hT : TabB B w b mb A n) :
    Calls Try.prog 15 #[.pointer (some ⟨b, 0, none⟩), .string k, .int .i64 p] w fun e w' => e = .returned (.tuple #[]) ∧ TabB B w' b mb (invA k p A) n ∧ Keep (foot b mb A) w w' := by
  refine (inval_calls k p b mb A n w hT.tab).mono ?_
  rintro e w' ⟨he, h1, h2⟩
  exact ⟨he, ⟨h1, fun i hi => hT.low i (foot_inv i hi)⟩, h2⟩

/-- A slice of strings as it is read. -/
def LView (w : World) (v : Value) (xs : List ByteArray) : Prop :=
  ∃ la g cap, v = .slice la xs.length cap ∧ (0 < xs.length → la = some ⟨g, 0, none⟩) ∧ ∀ j, j < xs.length → w.cell? ⟨g, j, none⟩ = some (.string (xs.getD j ⟨#[]⟩))
theorem lview_own {w : World} {base : Nat} {v : Value} {xs : List ByteArray} (h : w.ownsRow base 9 1 v xs.length (xs.map Value.string)) : LView w v xs := by
  rcases h.2 with ⟨h51, h52⟩ | ⟨g, cap, cur, rfl, hg, _⟩
  · exact ⟨none, 0, 0, by rw [h51, h52], fun h => by omega, fun j h => by omega⟩
  · refine ⟨_, g, cap, rfl, fun _ => rfl, fun j hj => ?_⟩
    rw [h.cellAt j (by omega)]
    simp [List.getD, hj]
structure ExpA (B : Nat) (W0 w w6 : World) (X : Nat) (xc : Array Value) (at_ : Int) (b mb : Nat) (A A6 : Ents) (n : Int) (rb : Nat) (sv : Value) (R : RL) (v1 : Value) (xs : List ByteArray) : Prop where
  t : Mt B W0 w6 X xc 30 b mb A6 n rb sv R n
  p1 : A6.Perm (A.filter fun q => !oldB q.2.2.began at_)
  p2 : xs.Perm ((A.filter fun q => oldB q.2.2.began at_).map (·.1))
  p3 : xs.Pairwise (fun x y => x.data.toList ≤ y.data.toList)
  own : w6.ownsRow (w.heap.size + 3) 9 1 v1 xs.length (xs.map Value.string)
  old : ∀ i, rfoot rb sv i → i < w.heap.size
section
variable {B X b mb rb : Nat} {W0 w w6 w7 : World} {xc : Array Value} {at_ : Int} {A A6 : Ents} {n : Int} {sv v1 : Value} {R : RL} {xs : List ByteArray} {now : Int} {k d : Nat} {e : Ending}
theorem exp_first (_hs : Sim A R) (hT : Mt B W0 w X xc 30 b mb A n rb sv R n) (hE : ExpPost b mb at_ A n w e w6) :
    ∃ v1 xs A6, e = .returned v1 ∧ ExpA B W0 w w6 X xc at_ b mb A A6 n rb sv R v1 xs := by
  obtain ⟨A1, v, xs, he, h1, h2, h3, h4, h5, h6⟩ := hE
  have hsub : ∀ i, foot b mb A1 i → foot b mb A i := foot_sub (fun q hq => ⟨q, (List.mem_filter.1 (h2.mem_iff.1 hq)).1, rfl⟩)
  refine ⟨v, xs, A1, he, ⟨hT.op1 ⟨h1, fun i hi => hT.l.t.low i (hsub i hi)⟩ (h6.mono fun i hi => .inr (.inl hi)) (fun i hi => .inl (hsub i hi)), h2, h3, h4, h5, fun i hi => hT.l.r.lt i hi⟩⟩
theorem exp_second (hM : MP A n R now k) (hd : d < 9) (h : ExpA B W0 w w6 X xc at_ b mb A A6 n rb sv R v1 xs) (hE : RExpPost B at_ rb sv R n w6 e w7) :
    ∃ v2 R7 sv7, e = .returned v2 ∧ MP A6 n R7 (now + d) (k + 1) ∧ Mt B W0 w7 X xc 30 b mb A6 n rb sv7 R7 n ∧ LView w7 v1 xs ∧ LView w7 v2 xs := by
  obtain ⟨v2, he, ho, hP⟩ := hE
  obtain ⟨sv7, hT7, hK⟩ := h.t.op2 hP
  obtain ⟨s1, s2⟩ := sim_expire hM.sim h.t.l.r.srt h.p1 h.p2 h.p3
  have := hM.now0; have := hM.now1; have := hM.le; have := hM.len; have := rest_len at_ R
  refine ⟨v2, restR at_ R, sv7, he, ⟨s1, by omega, by omega, by omega, by omega⟩, hT7, ?_, ?_⟩
  · refine lview_own (own_same h.own fun g hg => ?_)
    have hg2 := own_lt' h.own g hg
    exact hK.block g hg2.2 (fun hr => by have := h.old g hr; omega)
  · rw [s2]; exact lview_own ho
theorem exp_len2 (hM : MP A n R now k) (h : ExpA B W0 w w6 X xc at_ b mb A A6 n rb sv R v1 xs) (hk : k < 1000) : xs.length ≤ 1000000 := by
  have h1 := h.p2.length_eq
  rw [List.length_map] at h1
  have h2 := List.length_filter_le (fun q : ByteArray × (Nat × Ls) => oldB q.2.2.began at_) A
  have h3 := sim_len hM.sim
  have := hM.len
  omega
end
end Go.Proofs.Ytgflkhifphpgpaa
