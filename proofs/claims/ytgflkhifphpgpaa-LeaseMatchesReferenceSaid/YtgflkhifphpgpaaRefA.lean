/- The reference table of layer 16: its state in memory, the functions that only read. -/
import Derived.Test.YtgflkhifphpgpaaLawKit2
import Derived.Deep.AppendLies
import Derived.ArgAppend
namespace Go.Proofs.Ytgflkhifphpgpaa
open Go Go.RowKit Gw
open Go.ChangeMaps (setBlock)
set_option maxHeartbeats 1000000

abbrev RL := List (ByteArray × Ls)
def rcell (q : ByteArray × Ls) : List Value := [.string q.1, .int .i64 q.2.tok, .int .i64 q.2.began, .int .i64 q.2.bar]
def rcells (R : RL) : List Value := R.flatMap rcell
theorem rcells_nil : rcells [] = [] := rfl
theorem rcells_cons (q : ByteArray × Ls) (R : RL) : rcells (q :: R) = rcell q ++ rcells R := rfl
theorem rcells_append (R S : RL) : rcells (R ++ S) = rcells R ++ rcells S := by simp [rcells]
theorem rcells_length : ∀ (R : RL), (rcells R).length = R.length * 4
  | [] => rfl
  | q :: R => by rw [rcells_cons, List.length_append, rcells_length R, List.length_cons]; simp [rcell]; omega
theorem rcells_take : ∀ (R : RL) (k : Nat), rcells (R.take k) = (rcells R).take (k * 4)
  | [], k => by simp [rcells]
  | q :: R, 0 => by simp [rcells]
  | q :: R, k + 1 => by
    rw [List.take_succ_cons, rcells_cons, rcells_cons, rcells_take R k, show (k + 1) * 4 = (rcell q).length + k * 4 by simp [rcell]; omega, List.take_length_add_append]
theorem rcells_drop : ∀ (R : RL) (k : Nat), rcells (R.drop k) = (rcells R).drop (k * 4)
  | [], k => by simp [rcells]
  | q :: R, 0 => by simp
  | q :: R, k + 1 => by
    rw [List.drop_succ_cons, rcells_cons, rcells_drop R k, show (k + 1) * 4 = (rcell q).length + k * 4 by simp [rcell]; omega, List.drop_length_add_append]
theorem rcells_get : ∀ (R : RL) (i : Nat) (q : ByteArray × Ls) (j : Nat), R[i]? = some q → j < 4 → (rcells R)[i * 4 + j]? = (rcell q)[j]?
  | [], i, q, j, h, _ => by simp at h
  | p :: R, 0, q, j, h, hj => by
    simp at h; subst h
    rw [rcells_cons, Nat.zero_mul, Nat.zero_add, List.getElem?_append_left (by simp [rcell]; omega)]
  | p :: R, i + 1, q, j, h, hj => by
    simp at h
    rw [rcells_cons, List.getElem?_append_right (by simp [rcell]; omega)]
    have : (i + 1) * 4 + j - (rcell p).length = i * 4 + j := by simp [rcell]; omega
    rw [this]
    exact rcells_get R i q j h hj
theorem rcells_set : ∀ (R : RL) (i : Nat) (q : ByteArray × Ls), i < R.length →
    rcells (R.set i q) = ((((rcells R).set (i * 4) (.string q.1)).set (i * 4 + 1) (.int .i64 q.2.tok)).set (i * 4 + 2) (.int .i64 q.2.began)).set (i * 4 + 3) (.int .i64 q.2.bar)
  | [], i, q, h => by simp at h
  | p :: R, 0, q, h => by simp [rcells, rcell]
  | p :: R, i + 1, q, h => by
    rw [List.set_cons_succ, rcells_cons, rcells_set R i q (by simpa using h), rcells_cons]
    have h0 : ∀ j (v : Value) (l : List Value), rcell p ++ l.set (i * 4 + j) v = (rcell p ++ l).set ((i + 1) * 4 + j) v := by
      intro j v l
      rw [List.set_append_right _ _ (by simp [rcell]; omega)]
      congr 2
      simp [rcell]; omega
    rw [h0 3, h0 2, h0 1]
    have := h0 0 (.string q.1) (rcells R)
    simp only [Nat.add_zero] at this
    rw [this]
theorem rcell_one {q : ByteArray × Ls} : ∀ u ∈ rcell q, u.oneCell' = true := by
  intro u hu
  simp only [rcell, List.mem_cons, List.not_mem_nil, or_false] at hu
  rcases hu with rfl | rfl | rfl | rfl <;> rfl
theorem rcells_one {R : RL} : ∀ u ∈ rcells R, u.oneCell' = true := by
  intro u hu
  simp only [rcells, List.mem_flatMap] at hu
  obtain ⟨q, _, hu⟩ := hu
  exact rcell_one u hu

/-- The slice value sv holds R. -/
def RowR (w : World) (sv : Value) (R : RL) : Prop :=
  (sv = .slice none 0 0 ∧ R = []) ∨ ∃ g cap c, sv = .slice (some ⟨g, 0, none⟩) R.length cap ∧ R.length ≤ cap ∧ w.heap[g]? = some (.cells c 60 (0, 0)) ∧ cap * 4 ≤ c.size ∧ c.toList.take (R.length * 4) = rcells R
def rfoot (b : Nat) (sv : Value) (i : Nat) : Prop := i = b ∨ sv.ownBlock = some i
def ltB (p q : ByteArray × Ls) : Prop := p.1.data.toList < q.1.data.toList
structure RefT (B : Nat) (w : World) (b : Nat) (sv : Value) (R : RL) (n : Int) : Prop where
  hd : w.heap[b]? = some (.cells #[sv, .int .i64 n] 38 (0, 0))
  row : RowR w sv R
  low : ∀ i, rfoot b sv i → B ≤ i
  ne : sv.ownBlock ≠ some b
  srt : R.Pairwise ltB
  times : ∀ q ∈ R, 0 ≤ q.2.began ∧ q.2.began ≤ maxInt
  n0 : 0 ≤ n
  n1 : n ≤ 1000000
  len : R.length ≤ 1000000
theorem lt_ne {p q : ByteArray × Ls} (h : ltB p q) : p.1 ≠ q.1 := by
  intro e
  unfold ltB at h
  rw [e] at h
  exact List.lt_irrefl _ h
theorem RefT.keys {B : Nat} {w : World} {b : Nat} {sv : Value} {R : RL} {n : Int} (h : RefT B w b sv R n) : (R.map (·.1)).Nodup := by
  rw [List.Nodup, List.pairwise_map]
  exact h.srt.imp fun h => lt_ne h
theorem RowR.lt {w : World} {sv : Value} {R : RL} (h : RowR w sv R) : ∀ g, sv.ownBlock = some g → g < w.heap.size := by
  intro g hg
  rcases h with ⟨rfl, _⟩ | ⟨g', cap, c, rfl, _, hh, _⟩
  · cases hg
  · have : g' = g := by simpa [Value.ownBlock] using hg
    subst this
    exact lt_of_get hh
theorem RowR.same {w w' : World} {sv : Value} {R : RL} (h : RowR w sv R) (hb : ∀ g, sv.ownBlock = some g → w'.heap[g]? = w.heap[g]?) : RowR w' sv R := by
  rcases h with h | ⟨g, cap, c, rfl, h1, h2, h3⟩
  · exact .inl h
  · exact .inr ⟨g, cap, c, rfl, h1, by rw [hb g rfl]; exact h2, h3⟩
theorem RowR.form {w : World} {sv : Value} {R : RL} (h : RowR w sv R) : ∃ ao cap, sv = .slice ao R.length cap ∧ R.length ≤ cap ∧ (ao = none → cap = 0) ∧ ∀ (i : Nat) (q : ByteArray × Ls), R[i]? = some q → ∃ g, ao = some ⟨g, 0, none⟩ ∧ sv.ownBlock = some g ∧
    w.cell? ⟨g, i * 4, none⟩ = some (.string q.1) ∧ w.cell? ⟨g, i * 4 + 1, none⟩ = some (.int .i64 q.2.tok) ∧ w.cell? ⟨g, i * 4 + 2, none⟩ = some (.int .i64 q.2.began) ∧ w.cell? ⟨g, i * 4 + 3, none⟩ = some (.int .i64 q.2.bar) := by
  rcases h with ⟨rfl, rfl⟩ | ⟨g, cap, c, rfl, h1, h2, h3, h4⟩
  · exact ⟨none, 0, rfl, by simp, fun _ => rfl, fun i q h => by simp at h⟩
  · refine ⟨_, cap, rfl, h1, (fun h => by cases h), fun i q hq => ⟨g, rfl, rfl, ?_⟩⟩
    have hi : i < R.length := by
      rcases Nat.lt_or_ge i R.length with h | h
      · exact h
      · rw [List.getElem?_eq_none h] at hq; cases hq
    have hget : ∀ j (v : Value), j < 4 → (rcell q)[j]? = some v → w.cell? ⟨g, i * 4 + j, none⟩ = some v := by
      intro j v hj hv
      refine cell_of_block h2 ?_
      have h5 := rcells_get R i q j hq hj
      rw [← h4, List.getElem?_take_of_lt (by omega), hv] at h5
      simpa using h5
    exact ⟨hget 0 _ (by omega) rfl, hget 1 _ (by omega) rfl, hget 2 _ (by omega) rfl, hget 3 _ (by omega) rfl⟩
section
variable {B b : Nat} {w w' : World} {sv : Value} {R : RL} {n : Int}
theorem RefT.lt (h : RefT B w b sv R n) : ∀ i, rfoot b sv i → i < w.heap.size := by
  rintro i (rfl | hi)
  · exact lt_of_get h.hd
  · exact h.row.lt i hi
theorem RefT.keep (h : RefT B w b sv R n) {S : Nat → Prop} (hK : Keep S w w') (hd : ∀ i, rfoot b sv i → ¬ S i) : RefT B w' b sv R n :=
  ⟨hK.get h.hd (hd b (.inl rfl)), h.row.same fun g hg => hK.block g (h.row.lt g hg) (hd g (.inr hg)), h.low, h.ne, h.srt, h.times, h.n0, h.n1, h.len⟩
theorem RefT.grow (h : RefT B w b sv R n) (hb : Below w.heap.size w w') : RefT B w' b sv R n := h.keep (Keep.of_below hb (fun _ => False)) (fun _ _ x => x)
theorem RefT.size (h : RefT B w b sv R n) : B ≤ w.heap.size := Nat.le_trans (h.low b (.inl rfl)) (Nat.le_of_lt (lt_of_get h.hd))
end

theorem rnew_calls (B : Nat) (w : World) (hB : B ≤ w.heap.size) :
    Calls Try.prog 10 #[] w fun e w' => ∃ b, e = .returned (.pointer (some ⟨b, 0, none⟩)) ∧ RefT B w' b (.slice none 0 0) [] 0 ∧ Below w.heap.size w w' ∧ w.heap.size ≤ b := by
  have h1 : Hid (RefT B (w.alloc (.cells #[.slice none 0 0, .int .i64 0] 38)) w.heap.size (.slice none 0 0) [] 0) :=
    ⟨hp_alloc_new _ _, .inl ⟨rfl, rfl⟩, (by rintro i (rfl | h); exact hB; cases h), (by simp [Value.ownBlock]), .nil, (by simp), by omega, by omega, by simp⟩
  have h2 : Hid (Below w.heap.size w (w.alloc (.cells #[.slice none 0 0, .int .i64 0] 38))) := (Below.refl _ _).alloc (Nat.le_refl _) _
  go_enter Try.func10, Try.ntmps10
  go_wp2
  go_ret
  exact ⟨_, rfl, h1.out, h2.out, Nat.le_refl _⟩

theorem rold_calls (k : ByteArray) (x : Ls) (now : Int) (w : World) (hn : 0 ≤ now ∧ now ≤ maxInt) (hx : 0 ≤ x.began ∧ x.began ≤ maxInt) :
    Calls Try.prog 28 #[.agg #[.string k, .int .i64 x.tok, .int .i64 x.began, .int .i64 x.bar], .int .i64 now] w fun e w' => e = .returned (.bool (oldB x.began now)) ∧ Below w.heap.size w w' := by
  unfold maxInt at hn hx
  obtain ⟨hn1, hn2⟩ := hn
  obtain ⟨hx1, hx2⟩ := hx
  have h2 : ∀ o, Hid (Below w.heap.size w (w.alloc o)) := fun o => (Below.refl _ _).alloc (Nat.le_refl _) _
  go_enter Try.func28, Try.ntmps28
  go_wp2
  go_ret
  exact ⟨rfl, (h2 _).out⟩

def FindPost (k : ByteArray) (R : RL) (w : World) (e : Ending) (w' : World) : Prop :=
  (∃ (i : Nat) (x : Ls), e = .returned (.int .i64 (i : Int)) ∧ R[i]? = some (k, x) ∧ w = w') ∨ (e = .returned (.int .i64 (-1)) ∧ mlook k R = none ∧ w = w')
theorem mlook_none_of' {α : Type} {k : ByteArray} {l : List (ByteArray × α)} (h : ∀ p ∈ l, p.1 ≠ k) : mlook k l = none := by
  cases e : mlook k l with
  | none => rfl
  | some v => exact (h _ (mlook_mem e) rfl).elim
theorem find_calls (B : Nat) (k : ByteArray) (b : Nat) (sv : Value) (R : RL) (n : Int) (w : World) (hT : RefT B w b sv R n) :
    Calls Try.prog 27 #[.pointer (some ⟨b, 0, none⟩), .string k] w (FindPost k R w) := by
  obtain ⟨ao, cap, rfl, hcap, _, hel⟩ := hT.row.form
  have hcb : w.cell? ⟨b, 0, none⟩ = some (.slice ao R.length cap) := cell_of_block hT.hd rfl
  have HEL := Lib.hid hel
  have hlen := hT.len
  clear hT hel
  go_enter Try.func27, Try.ntmps27
  go_wp2
  go_loop [5] (fun i => ∃ (j : Nat), i = .int .i64 j ∧ j ≤ R.length ∧ Hid (∀ q ∈ R.take j, q.1 ≠ k)) (fun i => R.length - (intOf i).toNat)
  case atStart => exact ⟨0, rfl, by omega, fun q hq => by simp at hq⟩
  case round =>
    obtain ⟨j, rfl, hj, hall⟩ := hrel
    by_cases hlt : j < R.length
    · obtain ⟨q, hq⟩ : ∃ q, R[j]? = some q := ⟨_, List.getElem?_eq_getElem hlt⟩
      obtain ⟨g, rfl, _, hc, _⟩ := HEL.out j q hq
      obtain ⟨k1, x⟩ := q
      have HQ := Lib.hid hq
      clear hq
      simp only at hc
      by_cases he : k1 = k
      · subst he
        go_wp2
        go_ret
        exact .inl ⟨j, x, rfl, HQ.out, rfl⟩
      · have hne : (k1.toList == k.toList) = false := by
          rw [beq_eq_false_iff_ne, Go.Lib.toList_data, Go.Lib.toList_data]
          intro e; apply he; cases k1; cases k; simp only at e; rw [Array.toList_inj.1 e]
        have HN : Hid (∀ q ∈ R.take (j + 1), q.1 ≠ k) := by
          intro q hq
          rw [List.take_add_one, HQ.out] at hq
          simp only [Option.toList, List.mem_append, List.mem_singleton] at hq
          rcases hq with hq | rfl
          · exact hall.out q hq
          · exact he
        clear he
        go_wp2
        go_round
        case rel => exact ⟨j + 1, by go_num, by omega, HN⟩
        case measure => simp [intOf]; omega
    · obtain rfl : j = R.length := by omega
      have HN : Hid (mlook k R = none) := mlook_none_of' (by have := hall.out; rwa [List.take_length] at this)
      go_wp2
      go_ret
      exact .inr ⟨rfl, HN.out, rfl⟩
theorem look_of {k : ByteArray} {x : Ls} {i : Nat} {B b : Nat} {w : World} {sv : Value} {R : RL} {n : Int} (hT : RefT B w b sv R n) (h : R[i]? = some (k, x)) : mlook k R = some x := mlook_of_mem hT.keys (List.mem_of_getElem? h)
def rtokOf (o : Option Ls) : Int := match o with | some x => x.tok | none => 0
theorem rcurrent_calls (B : Nat) (k : ByteArray) (b : Nat) (sv : Value) (R : RL) (n : Int) (w : World) (hT : RefT B w b sv R n) :
    Calls Try.prog 17 #[.pointer (some ⟨b, 0, none⟩), .string k] w fun e w' => e = .returned (.int .i64 (rtokOf (mlook k R))) ∧ w = w' := by
  have HT := Lib.hid hT
  obtain ⟨ao, cap, rfl, hcap, _, hel⟩ := hT.row.form
  have hcb : w.cell? ⟨b, 0, none⟩ = some (.slice ao R.length cap) := cell_of_block hT.hd rfl
  have HEL := Lib.hid hel
  have hlen := hT.len
  clear hT hel
  go_enter Try.func17, Try.ntmps17
  go_wp2_with fail
  refine (find_calls B k b _ R n w HT.out).mono ?_
  rintro e w' (⟨i, x, rfl, hi, rfl⟩ | ⟨rfl, hn, rfl⟩)
  · obtain ⟨g, rfl, _, _, hc, _⟩ := HEL.out i _ hi
    have hlt : i < R.length := (List.getElem?_eq_some_iff.1 hi).1
    have HL := Lib.hid (look_of HT.out hi)
    simp only at hc
    clear hi
    go_wp2
    go_ret
    exact ⟨by rw [HL.out]; rfl, rfl⟩
  · have HL := Lib.hid hn
    clear hn
    go_wp2
    go_ret
    exact ⟨by rw [HL.out]; rfl, rfl⟩
end Go.Proofs.Ytgflkhifphpgpaa
