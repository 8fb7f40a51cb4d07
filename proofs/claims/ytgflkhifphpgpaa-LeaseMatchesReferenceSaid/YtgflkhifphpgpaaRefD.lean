/- The reference table of layer 16: Ask. -/
import Derived.Test.YtgflkhifphpgpaaRefC
import Derived.Deep.DrawnRows
namespace Go.Proofs.Ytgflkhifphpgpaa
open Go Go.RowKit Gw
open Go.ChangeMaps (setBlock)
set_option maxHeartbeats 1000000
set_option maxRecDepth 100000
attribute [local go_sem ↓] Go.wp_at_zero Go.wp_at_succ

section
variable {B b : Nat} {w w1 w' : World} {sv : Value} {R R' : RL} {n n1 n' : Int}
theorem RefT.bump (h : RefT B w b sv R n) (hn : n < 1000000) : RefT B (w.setCell ⟨b, 1, none⟩ (.int .i64 (n + 1))) b sv R (n + 1) ∧ Keep (rfoot b sv) w (w.setCell ⟨b, 1, none⟩ (.int .i64 (n + 1))) := by
  refine ⟨⟨?_, ?_, h.low, h.ne, h.srt, h.times, ?_, ?_, h.len⟩, (Keep.refl _ w).setCell _ _ fun _ => .inl rfl⟩
  · have := hp_setCell_same (i := 1) (.int .i64 (n + 1)) h.hd
    simpa using this
  · exact h.row.same fun g hg => Below.heap_setCell _ _ _ _ (fun e => h.ne (by rw [hg]; exact congrArg some e))
  · have := h.n0; omega
  · omega
theorem RPost.pre (hK : Keep (rfoot b sv) w w1) (h : RPost B b sv R' n' w1 w') : RPost B b sv R' n' w w' := by
  obtain ⟨sv', h1, h2, h3⟩ := h
  refine ⟨sv', h1, hK.trans h2 fun i _ hi => hi, fun i hi => ?_⟩
  rcases h3 i hi with h | h
  · exact .inl h
  · exact .inr (Nat.le_trans hK.size h)
theorem RPost.stay (h : RefT B w b sv R n) (hb : Below w.heap.size w w') : RPost B b sv R n w w' := ⟨sv, h.grow hb, Keep.of_below hb _, fun _ hi => .inl hi⟩
/-- The lease of a key that is there is replaced. -/
theorem ask_set {g i : Nat} {k : ByteArray} {x v : Ls} (hT : RefT B w b sv R n) (hg : sv.ownBlock = some g) (hi : R[i]? = some (k, x)) (hv : 0 ≤ v.began ∧ v.began ≤ maxInt) :
    RPost B b sv (mput k v R) n w ((((w.setCell ⟨g, i * 4, none⟩ (.string k)).setCell ⟨g, i * 4 + 1, none⟩ (.int .i64 v.tok)).setCell ⟨g, i * 4 + 2, none⟩ (.int .i64 v.began)).setCell ⟨g, i * 4 + 3, none⟩ (.int .i64 v.bar)) := by
  have hr := (row_cell v hT.row hg hi).2.2
  have hbg : b ≠ g := fun e => hT.ne (by rw [hg, e])
  rw [mput_set v hT.keys hi]
  refine ⟨sv, ⟨?_, hr, hT.low, hT.ne, srt_set hT.srt hi, ?_, hT.n0, hT.n1, by rw [List.length_set]; exact hT.len⟩, ?_, fun i hi => .inl hi⟩
  · exact hp_setCell_ne _ (hp_setCell_ne _ (hp_setCell_ne _ (hp_setCell_ne _ hT.hd hbg) hbg) hbg) hbg
  · intro q hq
    rcases List.mem_or_eq_of_mem_set hq with h | h
    · exact hT.times q h
    · rw [h]; exact hv
  · exact ((((Keep.refl _ w).setCell _ _ fun _ => .inr hg).setCell _ _ fun _ => .inr hg).setCell _ _ fun _ => .inr hg).setCell _ _ fun _ => .inr hg
/-- A lease of a new key is put in at its place. -/
theorem ask_put {w5 : World} {j : Nat} {k : ByteArray} {x : Ls} {v' : Value} {base : Nat} (hT : RefT B w b sv R n) (hj : j ≤ R.length) (hn : mlook k R = none) (h1 : ∀ q ∈ R.take j, q.1.data.toList < k.data.toList)
    (h2 : ∀ q, R[j]? = some q → ¬ q.1.data.toList < k.data.toList) (hx : 0 ≤ x.began ∧ x.began ≤ maxInt) (hl : R.length < 1000000) (hK : Keep (fun _ => False) w w5) (hb : w.heap.size ≤ base)
    {N : Nat} {ys : List Value} (hN : N = j + (1 + (R.length - j))) (hys : ys = rcells (R.take j) ++ (rcell (k, x) ++ rcells (R.drop j))) (hown : w5.ownsRow base 60 4 v' N ys) :
    RPost B b sv (R.take j ++ (k, x) :: R.drop j) n w (w5.setCell ⟨b, 0, none⟩ v') := by
  subst hN hys
  have hlen : (R.take j ++ (k, x) :: R.drop j).length = j + (1 + (R.length - j)) := by
    rw [List.length_append, List.length_cons, List.length_take, List.length_drop]; omega
  rw [← rcells_cons, ← rcells_append, ← hlen] at hown
  obtain ⟨r1, r2⟩ := RowR.of_own hown
  have hsd : R.Pairwise ltB := hT.srt
  rw [← List.take_append_drop j R, List.pairwise_append] at hsd
  obtain ⟨s1, s2, s3⟩ := hsd
  have h4 : ∀ q ∈ R.drop j, ltB (k, x) q := by
    intro q hq
    cases hd : R.drop j with
    | nil => rw [hd] at hq; simp at hq
    | cons q0 l =>
      have hq0 : R[j]? = some q0 := by
        have : (R.drop j)[0]? = some q0 := by rw [hd]; rfl
        rw [List.getElem?_drop] at this
        simpa using this
      have hk0 : ltB (k, x) q0 := by
        have h5 := h2 q0 hq0
        have h6 := mlook_none hn q0 (List.mem_of_getElem? hq0)
        have h7 : k.data.toList ≤ q0.1.data.toList := List.not_lt.1 h5
        rcases List.le_iff_lt_or_eq.1 h7 with h | h
        · exact h
        · refine (h6 ?_).elim
          cases hq1 : q0.1 with | mk a =>
          cases k with | mk c =>
          rw [hq1] at h
          simp only at h
          rw [Array.toList_inj.1 h]
      rw [hd] at hq s2
      rcases List.mem_cons.1 hq with rfl | hq
      · exact hk0
      · have h8 := (List.pairwise_cons.1 s2).1 q hq
        exact List.lt_trans hk0 h8
  refine row_new hT hK r1 (fun g hg => .inr (Nat.le_trans hb (r2 g hg))) ?_ ?_ (by rw [hlen]; omega)
  · rw [List.pairwise_append]
    refine ⟨s1, ?_, ?_⟩
    · rw [List.pairwise_cons]; exact ⟨h4, s2⟩
    · intro p hp q hq
      rcases List.mem_cons.1 hq with rfl | hq
      · exact h1 p hp
      · exact s3 p hp q hq
  · intro q hq
    rcases List.mem_append.1 hq with hq | hq
    · exact hT.times q (List.mem_of_mem_take hq)
    · rcases List.mem_cons.1 hq with rfl | hq
      · exact hx
      · exact hT.times q (List.mem_of_mem_drop hq)
theorem ask_perm {j : Nat} {k : ByteArray} {x : Ls} (hn : mlook k R = none) : (R.take j ++ (k, x) :: R.drop j).Perm (mput k x R) := by
  rw [mput_new _ hn]
  refine List.perm_middle.trans ?_
  rw [List.take_append_drop]
  exact (List.perm_append_singleton _ _).symm
end
theorem row_free {w : World} {sv : Value} {R : RL} {g : Nat} (h : RowR w sv R) (hg : sv.ownBlock = some g) (off : Nat) : w.frozen? ⟨g, off, none⟩ = false := by
  rcases h with ⟨rfl, _⟩ | ⟨g', cap, c, rfl, _, h2, _⟩
  · cases hg
  · have e : g' = g := by simpa [Value.ownBlock] using hg
    subst e
    exact free_of_block h2
theorem RowR.form2 {w : World} {sv : Value} {R : RL} (h : RowR w sv R) (i : Nat) (q : ByteArray × Ls) {g : Nat} (hi : R[i]? = some q) (hg : sv.ownBlock = some g) : ∃ g', g' = g ∧ True ∧
    w.cell? ⟨g, i * 4, none⟩ = some (.string q.1) ∧ w.cell? ⟨g, i * 4 + 1, none⟩ = some (.int .i64 q.2.tok) ∧ w.cell? ⟨g, i * 4 + 2, none⟩ = some (.int .i64 q.2.began) ∧ w.cell? ⟨g, i * 4 + 3, none⟩ = some (.int .i64 q.2.bar) := by
  obtain ⟨ao, cap, _, _, _, hel⟩ := h.form
  obtain ⟨g', _, hg', h1⟩ := hel i q hi
  rw [hg] at hg'
  obtain rfl : g = g' := by simpa using hg'
  exact ⟨g, rfl, trivial, h1⟩
def rasksB (now : Int) (o : Option Ls) : Bool := isTimeB now && (match o with | some x => oldB x.began now | none => true)
def RAskPost (B : Nat) (k : ByteArray) (now : Int) (b : Nat) (sv : Value) (R : RL) (n : Int) (w : World) (e : Ending) (w' : World) : Prop :=
  (e = .returned (.tuple #[.int .i64 (n + 1), .bool true]) ∧ rasksB now (mlook k R) = true ∧ ∃ R', R'.Perm (mput k ⟨n + 1, now, 0⟩ R) ∧ RPost B b sv R' (n + 1) w w') ∨
  (e = .returned (.tuple #[.int .i64 0, .bool false]) ∧ rasksB now (mlook k R) = false ∧ RPost B b sv R n w w')

theorem rask_old (B : Nat) (k : ByteArray) (now : Int) (b : Nat) (sv : Value) (R : RL) (n : Int) (w : World) (hT : RefT B w b sv R n) (hn : n < 1000000) (hc : mlook k R ≠ none ∨ isTimeB now = false) :
    Calls Try.prog 14 #[.pointer (some ⟨b, 0, none⟩), .string k, .int .i64 now] w (RAskPost B k now b sv R n w) := by
  have HT := Lib.hid hT
  obtain ⟨ao, cap, rfl, hcap, hnil, hel⟩ := hT.row.form
  have hcb : w.cell? ⟨b, 0, none⟩ = some (.slice ao R.length cap) := cell_of_block hT.hd rfl
  have hcn : w.cell? ⟨b, 1, none⟩ = some (.int .i64 n) := cell_of_block hT.hd rfl
  have hfb : w.frozen? ⟨b, 0, none⟩ = false := free_of_block hT.hd
  have hfn : w.frozen? ⟨b, 1, none⟩ = false := free_of_block hT.hd
  have HEL := Lib.hid hel
  have hn0 := hT.n0
  have HN := Lib.hid hn
  clear hT hel hnil
  have ht : (isTimeB now = true ∧ 0 ≤ now ∧ now ≤ 4611686018427387903) ∨ (isTimeB now = false ∧ now < 0) ∨ (isTimeB now = false ∧ 0 ≤ now ∧ 4611686018427387903 < now) := by
    unfold isTimeB maxInt
    by_cases h0 : 0 ≤ now
    · by_cases h1 : now ≤ 4611686018427387903
      · exact .inl ⟨by simp [h0, h1], h0, h1⟩
      · exact .inr (.inr ⟨by simp [h0, h1], h0, by omega⟩)
    · exact .inr (.inl ⟨by simp [h0], by omega⟩)
  have HTM := Lib.hid ht
  clear ht
  have HC := Lib.hid hc
  clear hc
  go_enter Try.func14, Try.ntmps14
  go_wp2_with fail
  refine (find_calls B k b _ R n w HT.out).mono ?_
  rintro e w' (⟨i, x, rfl, hi, rfl⟩ | ⟨rfl, hno, rfl⟩)
  · obtain ⟨g, rfl, hown, hc0, hc1, hc2, hc3⟩ := HEL.out i _ hi
    have hlt : i < R.length := (List.getElem?_eq_some_iff.1 hi).1
    simp only at hc0 hc1 hc2 hc3
    have HL := Lib.hid (look_of HT.out hi)
    have HI := Lib.hid hi
    have HOW := Lib.hid hown
    have hx := HT.out.times (k, x) (List.mem_of_getElem? hi)
    have HX := Lib.hid hx
    clear hi hown hx
    rcases HTM.out with ⟨ht, ht0, ht1⟩ | ht | ht
    · have HNOW : Hid (0 ≤ now ∧ now ≤ maxInt) := ⟨ht0, ht1⟩
      have HT1 := Lib.hid ht
      clear ht
      go_wp2_with fail
      refine (rold_calls k x now w HNOW.out HX.out).mono ?_
      rintro e w1 ⟨rfl, hb1⟩
      have HB1 := Lib.hid hb1
      clear hb1
      cases ho : oldB x.began now with
      | false =>
        have HO := Lib.hid ho
        clear ho
        go_wp2
        go_ret2
        exact .inr ⟨rfl, by unfold rasksB; rw [HL.out]; simp only [HO.out, Bool.and_false], RPost.stay HT.out HB1.out⟩
      | true =>
        have HO := Lib.hid ho
        clear ho hc0 hc1 hc2 hc3
        have T1 := Lib.hid (HT.out.grow HB1.out)
        have hbmp := T1.out.bump HN.out
        have K2 := Lib.hid (((Keep.of_below HB1.out (rfoot b (.slice (some ⟨g, 0, none⟩) R.length cap))).trans hbmp.2 fun _ _ h => h))
        have hcb1 : w1.cell? ⟨b, 0, none⟩ = some (.slice (some ⟨g, 0, none⟩) R.length cap) := cell_of_block T1.out.hd rfl
        have hcn1 : w1.cell? ⟨b, 1, none⟩ = some (.int .i64 n) := cell_of_block T1.out.hd rfl
        have hfn1 : w1.frozen? ⟨b, 1, none⟩ = false := free_of_block T1.out.hd
        have hw1 : (w1.setCell ⟨b, 1, none⟩ (.int .i64 (n + 1))).heap.size = w1.heap.size := by simp
        have hnew := hp_alloc_new (w1.setCell ⟨b, 1, none⟩ (.int .i64 (n + 1))) (.cells #[.string k, .int .i64 (n + 1), .int .i64 now, .int .i64 0] 60)
        rw [hw1] at hnew
        have T3' := hbmp.1.grow ((Below.refl _ _).alloc (Nat.le_refl _) (.cells #[.string k, .int .i64 (n + 1), .int .i64 now, .int .i64 0] 60))
        have K3' : Keep (rfoot b (.slice (some ⟨g, 0, none⟩) R.length cap)) w ((w1.setCell ⟨b, 1, none⟩ (.int .i64 (n + 1))).alloc (.cells #[.string k, .int .i64 (n + 1), .int .i64 now, .int .i64 0] 60)) := K2.out.alloc _
        clear hw1 hbmp hcb hcn hfb hfn
        generalize hw3 : ((w1.setCell ⟨b, 1, none⟩ (.int .i64 (n + 1))).alloc (.cells #[.string k, .int .i64 (n + 1), .int .i64 now, .int .i64 0] 60)) = w3 at hnew T3' K3'
        have HW3 := Lib.hid hw3
        have T3 := Lib.hid T3'
        have K3 := Lib.hid K3'
        have HNEW := Lib.hid hnew
        clear hw3 hnew T3' K3'
        go_wp2_with fail
        rw [HW3.out]
        have hwx : w1.heap.size < w3.heap.size := lt_of_get HNEW.out
        have hx0 : w3.cell? ⟨w1.heap.size, 0, none⟩ = some (.string k) := cell_of_block HNEW.out rfl
        have hx1 : w3.cell? ⟨w1.heap.size, 1, none⟩ = some (.int .i64 (n + 1)) := cell_of_block HNEW.out rfl
        have hx2 : w3.cell? ⟨w1.heap.size, 2, none⟩ = some (.int .i64 now) := cell_of_block HNEW.out rfl
        have hx3 : w3.cell? ⟨w1.heap.size, 3, none⟩ = some (.int .i64 0) := cell_of_block HNEW.out rfl
        generalize w1.heap.size = X at *
        have hcb3 : w3.cell? ⟨b, 0, none⟩ = some (.slice (some ⟨g, 0, none⟩) R.length cap) := cell_of_block T3.out.hd rfl
        clear hcb1 hcn1 hfn1
        go_still_tail 7, (by kernel_rfl)
        change wpList _ _ _ _ _ w3.drew
        have hbg : b ≠ g := fun e => T3.out.ne (by rw [HOW.out, e])
        have hcn3 : w3.cell? ⟨b, 1, none⟩ = some (.int .i64 (n + 1)) := cell_of_block T3.out.hd rfl
        have T4' : RefT B w3.drew b (.slice (some ⟨g, 0, none⟩) R.length cap) R (n + 1) := T3.out.keep (Keep.refl (fun _ => False) w3).drew (fun _ _ x => x)
        have K4' := K3.out.drew
        have hx0' : w3.drew.cell? ⟨X, 0, none⟩ = some (.string k) := hx0
        have hx1' : w3.drew.cell? ⟨X, 1, none⟩ = some (.int .i64 (n + 1)) := hx1
        have hx2' : w3.drew.cell? ⟨X, 2, none⟩ = some (.int .i64 now) := hx2
        have hx3' : w3.drew.cell? ⟨X, 3, none⟩ = some (.int .i64 0) := hx3
        clear hx0 hx1 hx2 hx3 hcn3 hcb3 hwx
        generalize w3.drew = w4 at *
        have T4 := Lib.hid T4'
        have K4 := Lib.hid K4'
        clear T4' K4'
        obtain ⟨g', hgg, _, hg0, hg1, hg2, hg3⟩ := T4.out.row.form2 i _ HI.out HOW.out
        have hf0 := row_free T4.out.row HOW.out (i * 4)
        have hf1 := row_free T4.out.row HOW.out (i * 4 + 1)
        have hf2 := row_free T4.out.row HOW.out (i * 4 + 2)
        have hf3 := row_free T4.out.row HOW.out (i * 4 + 3)
        have hcn4 : w4.cell? ⟨b, 1, none⟩ = some (.int .i64 (n + 1)) := cell_of_block T4.out.hd rfl
        have HP := Lib.hid ((ask_set (v := ⟨n + 1, now, 0⟩) T4.out HOW.out HI.out HNOW.out).pre K4.out)
        simp only at hg0 hg1 hg2 hg3
        clear hgg
        go_wp2
        go_ret2
        exact .inl ⟨rfl, by unfold rasksB; rw [HL.out, HT1.out]; simp only [HO.out, Bool.and_true], _, List.Perm.refl _, HP.out⟩
    · obtain ⟨ht, ht0⟩ := ht
      have HT1 := Lib.hid ht
      clear ht
      go_wp2
      go_ret2
      exact .inr ⟨rfl, by unfold rasksB; rw [HT1.out]; rfl, RPost.stay HT.out (Below.refl _ _)⟩
    · obtain ⟨ht, ht0, ht1⟩ := ht
      have HT1 := Lib.hid ht
      clear ht
      go_wp2
      go_ret2
      exact .inr ⟨rfl, by unfold rasksB; rw [HT1.out]; rfl, RPost.stay HT.out (Below.refl _ _)⟩
  · have HL := Lib.hid hno
    clear hno
    rcases HTM.out with ⟨ht, ht0, ht1⟩ | ht | ht
    · rcases HC.out with hc | hc
      · exact (hc HL.out).elim
      · rw [ht] at hc; cases hc
    · obtain ⟨ht, ht0⟩ := ht
      have HT1 := Lib.hid ht
      clear ht
      go_wp2
      go_ret2
      exact .inr ⟨rfl, by unfold rasksB; rw [HT1.out]; rfl, RPost.stay HT.out (Below.refl _ _)⟩
    · obtain ⟨ht, ht0, ht1⟩ := ht
      have HT1 := Lib.hid ht
      clear ht
      go_wp2
      go_ret2
      exact .inr ⟨rfl, by unfold rasksB; rw [HT1.out]; rfl, RPost.stay HT.out (Below.refl _ _)⟩
end Go.Proofs.Ytgflkhifphpgpaa
