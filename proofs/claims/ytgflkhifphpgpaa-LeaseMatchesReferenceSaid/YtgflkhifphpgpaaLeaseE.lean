/- pick, key, and the operations of the lease table as the laws use them. -/
import Derived.Test.YtgflkhifphpgpaaLeaseD
import Derived.Test.YtgflkhifphpgpaaOpen
namespace Go.Proofs.Ytgflkhifphpgpaa
open Go Go.RowKit Gw
open Go.ChangeMaps (setBlock)
set_option maxHeartbeats 400000

def pickN (c : Int) (n : Nat) : Nat := (if c < 0 then (-(c + 1)) % (n : Int) else c % (n : Int)).toNat
theorem pickN_lt (c : Int) (n : Nat) (h : 0 < n) : pickN c n < n := by
  unfold pickN
  have h1 := Int.emod_lt_of_pos (-(c + 1)) (show (0 : Int) < n by omega)
  have h2 := Int.emod_lt_of_pos c (show (0 : Int) < n by omega)
  have h3 := Int.emod_nonneg (-(c + 1)) (show (n : Int) ≠ 0 by omega)
  have h4 := Int.emod_nonneg c (show (n : Int) ≠ 0 by omega)
  split <;> omega
theorem pick_calls (c : Int) (n : Nat) (m : Int) (w : World) (hm : m = n) (hn : 1 ≤ n) (hn' : n ≤ 1000000) (hc : okI c) :
    Calls Try.prog 12 #[.int .i64 c, .int .i64 m] w fun e w' => e = .returned (.int .i64 (pickN c n)) ∧ w = w' := by
  subst hm
  obtain ⟨hc1, hc2⟩ := hc
  have h3 := Int.emod_nonneg (-(c + 1)) (show (n : Int) ≠ 0 by omega)
  have h4 := Int.emod_nonneg c (show (n : Int) ≠ 0 by omega)
  have HN : Hid (c < 0 → (pickN c n : Int) = -((c + 1).tmod n)) := by
    intro h
    have : (-(c + 1)).tmod n = (-(c + 1)) % n := Int.tmod_eq_emod_of_nonneg (by omega)
    rw [Int.neg_tmod] at this
    rw [this]
    simp only [pickN, h, if_true]
    omega
  have HP : Hid (0 ≤ c → (pickN c n : Int) = c % n) := by
    intro h
    have : ¬ c < 0 := by omega
    simp only [pickN, this, if_false]
    omega
  clear h3 h4
  go_enter Try.func12, Try.ntmps12
  go_wp2
  · go_ret
    exact ⟨by rw [HN.out (by assumption)]; rfl, rfl⟩
  · go_ret
    exact ⟨by rw [HP.out (by assumption)]; rfl, rfl⟩

def keyB (j : Nat) : ByteArray := match j with | 0 => ⟨#[97]⟩ | 1 => ⟨#[98]⟩ | 2 => ⟨#[114, 111, 119, 32, 49, 32, 53]⟩ | _ => ⟨#[]⟩
theorem key_calls (c : Int) (w : World) (hc : okI c) :
    Calls Try.prog 11 #[.int .i64 c] w fun e w' => e = .returned (.string (keyB (pickN c 4))) ∧ Below w.heap.size w w' := by
  have hp := pickN_lt c 4 (by omega)
  have HC := Lib.hid hc
  have HB : ∀ o, Hid (Below w.heap.size w (w.alloc o)) := fun o => (Below.refl _ _).alloc (Nat.le_refl _) _
  clear hc
  have h4 : pickN c 4 = 0 ∨ pickN c 4 = 1 ∨ pickN c 4 = 2 ∨ pickN c 4 = 3 := by omega
  clear hp
  rcases h4 with hj | hj | hj | hj
  all_goals
    have HJ := Lib.hid hj
    clear hj
    go_enter Try.func11, Try.ntmps11
    go_wp2_with (first | (go_at_call 12; refine (pick_calls _ 4 _ _ rfl (by omega) (by omega) HC.out).mono ?_; rintro e w' ⟨rfl, rfl⟩; rw [HJ.out]))
    go_ret
    exact ⟨by rw [HJ.out]; rfl, (HB _).out⟩

/- footprints -/
abbrev Ents := List (ByteArray × (Nat × Ls))
theorem foot_lt {w : World} {b mb : Nat} {A : Ents} {n : Int} (h : TabA w b mb A n) : ∀ i, foot b mb A i → i < w.heap.size := by
  rintro i (rfl | rfl | ⟨q, hq, rfl⟩)
  · exact lt_of_get h.hd
  · exact h.map.lt
  · exact lt_of_get (h.ls q hq)
theorem TabA.keep {w w' : World} {b mb : Nat} {A : Ents} {n : Int} (h : TabA w b mb A n) {S : Nat → Prop} (hK : Keep S w w') (hd : ∀ i, foot b mb A i → ¬ S i) : TabA w' b mb A n :=
  ⟨hK.get h.hd (hd b (.inl rfl)), h.map.keep (hK.block mb h.map.lt (hd mb (.inr (.inl rfl)))), fun q hq => hK.get (h.ls q hq) (hd _ (.inr (.inr ⟨q, hq, rfl⟩))), h.nd, h.times, h.keys, h.n0, h.n1⟩
theorem foot_mput {b mb p : Nat} {A : Ents} {k : ByteArray} {x : Ls} : ∀ i, foot b mb (mput k (p, x) A) i → foot b mb A i ∨ i = p := by
  rintro i (rfl | rfl | ⟨q, hq, rfl⟩)
  · exact .inl (.inl rfl)
  · exact .inl (.inr (.inl rfl))
  · rcases mem_mput hq with rfl | hq
    · exact .inr rfl
    · exact .inl (.inr (.inr ⟨q, hq, rfl⟩))
theorem foot_sub {b mb : Nat} {A A' : Ents} (h : ∀ q ∈ A', ∃ q' ∈ A, q'.2.1 = q.2.1) : ∀ i, foot b mb A' i → foot b mb A i := by
  rintro i (rfl | rfl | ⟨q, hq, rfl⟩)
  · exact .inl rfl
  · exact .inr (.inl rfl)
  · obtain ⟨q', hq', e⟩ := h q hq
    exact .inr (.inr ⟨q', hq', e.symm⟩)
theorem foot_mdel {b mb : Nat} {A : Ents} {k : ByteArray} : ∀ i, foot b mb (mdel k A) i → foot b mb A i :=
  foot_sub fun q hq => ⟨q, (mdel_sublist k A).subset hq, rfl⟩
theorem foot_inv {b mb : Nat} {A : Ents} {k : ByteArray} {p : Int} : ∀ i, foot b mb (invA k p A) i → foot b mb A i := by
  refine foot_sub fun q hq => ?_
  unfold invA at hq
  split at hq
  · rename_i x hx
    rcases mem_mput hq with rfl | hq
    · exact ⟨(k, x), mlook_mem hx, rfl⟩
    · exact ⟨q, hq, rfl⟩
  · exact ⟨q, hq, rfl⟩

/- look-ups behind changes -/
theorem mlook_mput_same {α : Type} (k : ByteArray) (v : α) : ∀ (l : List (ByteArray × α)), mlook k (mput k v l) = some v
  | [] => by simp [mput, mlook_cons]
  | p :: l => by
    simp only [mput]
    split
    · simp [mlook_cons]
    · rename_i e; rw [mlook_cons]; simp only [e, if_false]; exact mlook_mput_same k v l
theorem mlook_mput_ne {α : Type} {k k' : ByteArray} (v : α) (h : k ≠ k') : ∀ (l : List (ByteArray × α)), mlook k (mput k' v l) = mlook k l
  | [] => by simp [mput, mlook_cons, mlook_nil, h]
  | p :: l => by
    simp only [mput]
    split
    · rename_i e; rw [mlook_cons, mlook_cons, ← e]; simp only [h, if_false]
    · rw [mlook_cons, mlook_cons, mlook_mput_ne v h l]
theorem mlook_mdel_same {α : Type} {k : ByteArray} {l : List (ByteArray × α)} (hn : (l.map (·.1)).Nodup) : mlook k (mdel k l) = none := by
  cases h : mlook k (mdel k l) with
  | none => rfl
  | some v => exact (((mdel_mem hn).1 (mlook_mem h)).2 rfl).elim
theorem mlook_mdel_ne {α : Type} {k k' : ByteArray} (h : k ≠ k') : ∀ (l : List (ByteArray × α)), mlook k (mdel k' l) = mlook k l
  | [] => rfl
  | p :: l => by
    simp only [mdel]
    split
    · rename_i e; rw [mlook_cons, ← e]; simp [h]
    · rw [mlook_cons, mlook_cons, mlook_mdel_ne h l]

/- the operations, with what each does to a lower bound of the blocks -/
/-- The table's blocks all lie from B on. -/
structure TabB (B : Nat) (w : World) (b mb : Nat) (A : Ents) (n : Int) : Prop where
  tab : TabA w b mb A n
  low : ∀ i, foot b mb A i → B ≤ i
def asksB (now : Int) (o : Option (Nat × Ls)) : Bool := isTimeB now && (match o with | some x => oldB x.2.began now | none => true)
def AskAny (B : Nat) (k : ByteArray) (now : Int) (b mb : Nat) (A : Ents) (n : Int) (w : World) (e : Ending) (w' : World) : Prop :=
  (e = .returned (.tuple #[.int .i64 (n + 1), .bool true]) ∧ asksB now (mlook k A) = true ∧ TabB B w' b mb (mput k (w.heap.size, ⟨n + 1, now, 0⟩) A) (n + 1) ∧ Keep (foot b mb A) w w') ∨
  (e = .returned (.tuple #[.int .i64 0, .bool false]) ∧ asksB now (mlook k A) = false ∧ w = w')
theorem ask_any (B : Nat) (k : ByteArray) (now : Int) (b mb : Nat) (A : Ents) (n : Int) (w : World) (hT : TabB B w b mb A n) (hB : B ≤ w.heap.size) (hn : n < 1000000) :
    Calls Try.prog 13 #[.pointer (some ⟨b, 0, none⟩), .string k, .int .i64 now] w (AskAny B k now b mb A n w) := by
  cases ha : asksB now (mlook k A) with
  | true =>
    simp only [asksB, Bool.and_eq_true] at ha
    refine (ask_yes k now b mb A n w hT.tab hn ha.1 (fun x hx => by simpa [hx] using ha.2)).mono ?_
    rintro e w' ⟨rfl, h1, h2⟩
    refine .inl ⟨rfl, by simp only [asksB, Bool.and_eq_true]; exact ha, ⟨h1, fun i hi => ?_⟩, h2⟩
    rcases foot_mput i hi with h | h
    · exact hT.low i h
    · omega
  | false =>
    refine (ask_no k now b mb A n w hT.tab ?_).mono ?_
    · simp only [asksB, Bool.and_eq_false_iff] at ha
      rcases ha with ha | ha
      · exact .inl ha
      · right
        cases hx : mlook k A with
        | none => simp [hx] at ha
        | some x => exact ⟨x, rfl, by simpa [hx] using ha⟩
    · rintro e w' ⟨rfl, rfl⟩
      exact .inr ⟨rfl, ha, rfl⟩
def fillB (tok p : Int) (o : Option (Nat × Ls)) : Bool := match o with | some x => decide (x.2.tok = tok) && decide (x.2.bar ≤ p) | none => false
def FillAny (B : Nat) (k : ByteArray) (tok p : Int) (b mb : Nat) (A : Ents) (n : Int) (w : World) (e : Ending) (w' : World) : Prop :=
  e = .returned (.bool (fillB tok p (mlook k A))) ∧ TabB B w' b mb (if fitsA k tok A then mdel k A else A) n ∧ Keep (foot b mb A) w w'
theorem fill_any (B : Nat) (k : ByteArray) (tok p : Int) (b mb : Nat) (A : Ents) (n : Int) (w : World) (hT : TabB B w b mb A n) :
    Calls Try.prog 18 #[.pointer (some ⟨b, 0, none⟩), .string k, .int .i64 tok, .int .i64 p] w (FillAny B k tok p b mb A n w) := by
  cases hf : fitsA k tok A with
  | false =>
    refine (fill_no k tok p b mb A n w hT.tab hf).mono ?_
    rintro e w' ⟨rfl, rfl⟩
    refine ⟨?_, by simpa [hf] using hT, Keep.refl _ _⟩
    have : fillB tok p (mlook k A) = false := by
      unfold fitsA at hf
      unfold fillB
      cases hx : mlook k A with
      | none => rfl
      | some x => simp only [hx] at hf; simp only [hf, Bool.false_and]
    rw [this]
  | true =>
    unfold fitsA at hf
    cases hx : mlook k A with
    | none => simp [hx] at hf
    | some x =>
      have ht : x.2.tok = tok := by simpa [hx] using hf
      refine (fill_yes k tok p b mb A n w hT.tab x hx ht).mono ?_
      rintro e w' ⟨rfl, h1, h2⟩
      refine ⟨by simp [hx, fillB, ht], ?_, h2⟩
      have hf2 : fitsA k tok A = true := by simp [fitsA, hx, ht]
      rw [hf2]
      exact ⟨h1, fun i hi => hT.low i (foot_mdel i hi)⟩
end Go.Proofs.Ytgflkhifphpgpaa
