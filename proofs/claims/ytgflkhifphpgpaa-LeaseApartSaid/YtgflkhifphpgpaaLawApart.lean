/- The law LeaseApart. -/
import Derived.Test.YtgflkhifphpgpaaLawKit2
namespace Go.Proofs.Ytgflkhifphpgpaa
open Go Go.RowKit Gw
open Go.ChangeMaps (setBlock)
set_option maxHeartbeats 1000000
set_option maxRecDepth 100000

/-- Two tables that share nothing. -/
structure TwoL (B : Nat) (W0 w : World) (a1 m1 : Nat) (A1 : Ents) (n1 : Int) (a2 m2 : Nat) (A2 : Ents) (n2 : Int) : Prop where
  t1 : TabB B w a1 m1 A1 n1
  t2 : TabB B w a2 m2 A2 n2
  dj : ∀ i, foot a1 m1 A1 i → ¬ foot a2 m2 A2 i
  below : Below B W0 w
/-- .. and a block beside them. -/
structure Two (B : Nat) (W0 w : World) (X : Nat) (xc : Array Value) (T : Nat) (a1 m1 : Nat) (A1 : Ents) (n1 : Int) (a2 m2 : Nat) (A2 : Ents) (n2 : Int) : Prop where
  l : TwoL B W0 w a1 m1 A1 n1 a2 m2 A2 n2
  x : w.heap[X]? = some (.cells xc T (0, 0))
  x1 : ¬ foot a1 m1 A1 X
  x2 : ¬ foot a2 m2 A2 X
section
variable {B X T a1 m1 a2 m2 : Nat} {W0 w w' : World} {xc : Array Value} {A1 A1' A2 A2' : Ents} {n1 n1' n2 n2' : Int}
theorem TwoL.grow (h : TwoL B W0 w a1 m1 A1 n1 a2 m2 A2 n2) (hb : Below w.heap.size w w') : TwoL B W0 w' a1 m1 A1 n1 a2 m2 A2 n2 :=
  ⟨⟨h.t1.tab.keep (Keep.of_below hb (fun _ => False)) (fun _ _ x => x), h.t1.low⟩, ⟨h.t2.tab.keep (Keep.of_below hb (fun _ => False)) (fun _ _ x => x), h.t2.low⟩, h.dj,
   h.below.trans (hb.mono (Nat.le_trans (h.t1.low a1 (.inl rfl)) (Nat.le_of_lt (lt_of_get h.t1.tab.hd))))⟩
theorem TwoL.size (h : TwoL B W0 w a1 m1 A1 n1 a2 m2 A2 n2) : B ≤ w.heap.size := Nat.le_trans (h.t1.low a1 (.inl rfl)) (Nat.le_of_lt (lt_of_get h.t1.tab.hd))
theorem Two.grow (h : Two B W0 w X xc T a1 m1 A1 n1 a2 m2 A2 n2) (hb : Below w.heap.size w w') : Two B W0 w' X xc T a1 m1 A1 n1 a2 m2 A2 n2 :=
  ⟨h.l.grow hb, (Keep.of_below hb (fun _ => False)).get h.x (fun x => x), h.x1, h.x2⟩
theorem Two.op1 (h : Two B W0 w X xc T a1 m1 A1 n1 a2 m2 A2 n2) (hT : TabB B w' a1 m1 A1' n1') (hK : Keep (foot a1 m1 A1) w w') (hf : ∀ i, foot a1 m1 A1' i → foot a1 m1 A1 i ∨ w.heap.size ≤ i) :
    Two B W0 w' X xc T a1 m1 A1' n1' a2 m2 A2 n2 := by
  refine ⟨⟨hT, ⟨h.l.t2.tab.keep hK (fun i hi hi' => h.l.dj i hi' hi), h.l.t2.low⟩, fun i hi hi2 => ?_, h.l.below.trans (hK.belowN h.l.size fun i hi => h.l.t1.low i hi)⟩, hK.get h.x h.x1, fun hi => ?_, h.x2⟩
  · rcases hf i hi with h1 | h1
    · exact h.l.dj i h1 hi2
    · have := foot_lt h.l.t2.tab i hi2; omega
  · rcases hf X hi with h1 | h1
    · exact h.x1 h1
    · have := lt_of_get h.x; omega
theorem Two.op2 (h : Two B W0 w X xc T a1 m1 A1 n1 a2 m2 A2 n2) (hT : TabB B w' a2 m2 A2' n2') (hK : Keep (foot a2 m2 A2) w w') (hf : ∀ i, foot a2 m2 A2' i → foot a2 m2 A2 i ∨ w.heap.size ≤ i) :
    Two B W0 w' X xc T a1 m1 A1 n1 a2 m2 A2' n2' := by
  refine ⟨⟨⟨h.l.t1.tab.keep hK (fun i hi hi' => h.l.dj i hi hi'), h.l.t1.low⟩, hT, fun i hi hi2 => ?_, h.l.below.trans (hK.belowN h.l.size fun i hi => h.l.t2.low i hi)⟩, hK.get h.x h.x2, h.x1, fun hi => ?_⟩
  · rcases hf i hi2 with h1 | h1
    · exact h.l.dj i hi h1
    · have := foot_lt h.l.t1.tab i hi; omega
  · rcases hf X hi with h1 | h1
    · exact h.x2 h1
    · have := lt_of_get h.x; omega
theorem TwoL.with (h : TwoL B W0 w a1 m1 A1 n1 a2 m2 A2 n2) (xc : Array Value) (T : Nat) : Two B W0 (w.alloc (.cells xc T)) w.heap.size xc T a1 m1 A1 n1 a2 m2 A2 n2 :=
  ⟨h.grow ((Below.refl _ _).alloc (Nat.le_refl _) _), hp_alloc_new _ _, fun hi => by have := foot_lt h.t1.tab _ hi; omega, fun hi => by have := foot_lt h.t2.tab _ hi; omega⟩
end

def sameO : Option (Nat × Ls) → Option (Nat × Ls) → Prop
  | none, none => True
  | some p, some q => p.2.began = q.2.began ∧ p.2.bar = q.2.bar ∧ 1 ≤ p.2.tok ∧ 1 ≤ q.2.tok
  | _, _ => False
structure ApP (A1 : Ents) (n1 : Int) (A2 : Ents) (n2 : Int) (now : Int) (jn k : Nat) : Prop where
  le1 : n1 ≤ k
  le2 : n2 ≤ k
  now0 : 0 ≤ now
  now1 : now ≤ 8 * k
  same : sameO (mlook (keyB jn) A1) (mlook (keyB jn) A2)
theorem same_zero {o1 o2 : Option (Nat × Ls)} (h : sameO o1 o2) : (o1 = none ∧ o2 = none) ∨ ∃ p q, o1 = some p ∧ o2 = some q ∧ 1 ≤ p.2.tok ∧ 1 ≤ q.2.tok ∧ p.2.began = q.2.began ∧ p.2.bar = q.2.bar := by
  cases o1 <;> cases o2 <;> simp [sameO] at h
  · exact .inl ⟨rfl, rfl⟩
  · exact .inr ⟨_, _, rfl, rfl, h.2.2.1, h.2.2.2, h.1, h.2.1⟩
theorem same_asks {o1 o2 : Option (Nat × Ls)} (h : sameO o1 o2) (now : Int) : asksB now o1 = asksB now o2 := by
  rcases same_zero h with ⟨rfl, rfl⟩ | ⟨p, q, rfl, rfl, _, _, h1, _⟩
  · rfl
  · simp [asksB, h1]
def ApR (B : Nat) (W0 : World) (a1 m1 a2 m2 jn k : Nat) (now : Int) (wr : World) : Prop :=
  ∃ A1 n1 A2 n2, ApP A1 n1 A2 n2 now jn k ∧ TwoL B W0 wr a1 m1 A1 n1 a2 m2 A2 n2
/- what the operations make of the pair -/
section
variable {A1 A2 : Ents} {n1 n2 now : Int} {jn k d j : Nat}
theorem ap_next (h : ApP A1 n1 A2 n2 now jn k) (hd : d < 9) : ApP A1 n1 A2 n2 (now + d) jn (k + 1) := by
  have := h.le1; have := h.le2; have := h.now0; have := h.now1
  exact ⟨by omega, by omega, by omega, by omega, h.same⟩
theorem ap_ask1 {p : Nat} {t : Int} (h : ApP A1 n1 A2 n2 now jn k) (hd : d < 9) (hj : j < 4) (hn : jn < 4) (hne : j ≠ jn) : ApP (mput (keyB j) (p, ⟨n1 + 1, t, 0⟩) A1) (n1 + 1) A2 n2 (now + d) jn (k + 1) := by
  have := h.le1; have := h.le2; have := h.now0; have := h.now1
  refine ⟨by omega, by omega, by omega, by omega, ?_⟩
  rw [mlook_mput_ne _ (fun e => hne (keyB_inj jn j hn hj e).symm)]
  exact h.same
theorem ap_ask2 {p1 p2 : Nat} {t : Int} (h : ApP A1 n1 A2 n2 now j k) (hd : d < 9) (h1 : 0 ≤ n1) (h2 : 0 ≤ n2) :
    ApP (mput (keyB j) (p1, ⟨n1 + 1, t, 0⟩) A1) (n1 + 1) (mput (keyB j) (p2, ⟨n2 + 1, t, 0⟩) A2) (n2 + 1) (now + d) j (k + 1) := by
  have := h.le1; have := h.le2; have := h.now0; have := h.now1
  refine ⟨by omega, by omega, by omega, by omega, ?_⟩
  rw [mlook_mput_same, mlook_mput_same]
  exact ⟨rfl, rfl, by simp only; omega, by simp only; omega⟩
theorem mlook_inv_ne {A : Ents} {p : Int} (hj : j < 4) (hn : jn < 4) (hne : j ≠ jn) : mlook (keyB jn) (invA (keyB j) p A) = mlook (keyB jn) A := by
  unfold invA
  split
  · rw [mlook_mput_ne _ (fun e => hne (keyB_inj jn j hn hj e).symm)]
  · rfl
theorem ap_inv1 {p : Int} (h : ApP A1 n1 A2 n2 now jn k) (hd : d < 9) (hj : j < 4) (hn : jn < 4) (hne : j ≠ jn) : ApP (invA (keyB j) p A1) n1 A2 n2 (now + d) jn (k + 1) := by
  have h' := ap_next h hd
  refine ⟨h'.le1, h'.le2, h'.now0, h'.now1, ?_⟩
  rw [mlook_inv_ne hj hn hne]; exact h.same
theorem ap_inv2 {p : Int} (h : ApP A1 n1 A2 n2 now j k) (hd : d < 9) : ApP (invA (keyB j) p A1) n1 (invA (keyB j) p A2) n2 (now + d) j (k + 1) := by
  have h' := ap_next h hd
  refine ⟨h'.le1, h'.le2, h'.now0, h'.now1, ?_⟩
  rcases same_zero h.same with ⟨e1, e2⟩ | ⟨x, y, e1, e2, h1, h2, h3, h4⟩
  · unfold invA; rw [e1, e2]; simp only [e1, e2]; exact trivial
  · unfold invA; rw [e1, e2]; simp only [mlook_mput_same]; exact ⟨h3, by rw [h4], h1, h2⟩
theorem ap_del1 (h : ApP A1 n1 A2 n2 now jn k) (hd : d < 9) (hj : j < 4) (hn : jn < 4) (hne : j ≠ jn) : ApP (mdel (keyB j) A1) n1 A2 n2 (now + d) jn (k + 1) := by
  have h' := ap_next h hd
  refine ⟨h'.le1, h'.le2, h'.now0, h'.now1, ?_⟩
  rw [mlook_mdel_ne (fun e => hne (keyB_inj jn j hn hj e).symm)]; exact h.same
theorem ap_del2 (h : ApP A1 n1 A2 n2 now j k) (hd : d < 9) (k1 : (A1.map (·.1)).Nodup) (k2 : (A2.map (·.1)).Nodup) : ApP (mdel (keyB j) A1) n1 (mdel (keyB j) A2) n2 (now + d) j (k + 1) := by
  have h' := ap_next h hd
  refine ⟨h'.le1, h'.le2, h'.now0, h'.now1, ?_⟩
  rw [mlook_mdel_same k1, mlook_mdel_same k2]; exact trivial
end

theorem mdel_none {α : Type} {k : ByteArray} : ∀ {l : List (ByteArray × α)}, mlook k l = none → mdel k l = l
  | [], _ => rfl
  | p :: l, h => by
    rw [mlook_cons] at h
    simp only [mdel]
    split
    · rename_i e; simp [e] at h
    · rename_i e; simp only [e, if_false] at h; rw [mdel_none h]
def curB (p : Int) : Option (Nat × Ls) → Bool
  | some x => decide (x.2.bar ≤ p)
  | none => false
theorem same_cur {o1 o2 : Option (Nat × Ls)} (h : sameO o1 o2) (p : Int) : curB p o1 = curB p o2 := by
  rcases same_zero h with ⟨rfl, rfl⟩ | ⟨x, y, rfl, rfl, _, _, _, h1⟩
  · rfl
  · simp [curB, h1]
def FillCur (B : Nat) (k : ByteArray) (p : Int) (b mb : Nat) (A : Ents) (n : Int) (w : World) (e : Ending) (w' : World) : Prop :=
  e = .returned (.bool (curB p (mlook k A))) ∧ TabB B w' b mb (mdel k A) n ∧ Keep (foot b mb A) w w'
theorem fill_cur (B : Nat) (k : ByteArray) (p : Int) (b mb : Nat) (A : Ents) (n : Int) (w : World) (hT : TabB B w b mb A n) :
    Calls Try.prog 18 #[.pointer (some ⟨b, 0, none⟩), .string k, .int .i64 (tokOf (mlook k A)), .int .i64 p] w (FillCur B k p b mb A n w) := by
  refine (fill_any B k (tokOf (mlook k A)) p b mb A n w hT).mono ?_
  rintro e w' ⟨rfl, h1, h2⟩
  refine ⟨?_, ?_, h2⟩
  · cases hx : mlook k A with
    | none => rfl
    | some x => simp [fillB, curB, tokOf]
  · cases hx : mlook k A with
    | none =>
      rw [mdel_none hx]
      have : fitsA k (tokOf (mlook k A)) A = false := by unfold fitsA; rw [hx]
      rw [this] at h1
      exact h1
    | some x =>
      have : fitsA k (tokOf (mlook k A)) A = true := by unfold fitsA; rw [hx]; simp [tokOf]
      rw [this] at h1
      exact h1
theorem inval_k (B : Nat) (k : ByteArray) (p : Int) (b mb : Nat) (A : Ents) (n : Int) (w : World) (hT : TabB B w b mb A n) :
    Calls Try.prog 15 #[.pointer (some ⟨b, 0, none⟩), .string k, .int .i64 p] w fun e w' => e = .returned (.tuple #[]) ∧ TabB B w' b mb (invA k p A) n ∧ Keep (foot b mb A) w w' := by
  refine (inval_calls k p b mb A n w hT.tab).mono ?_
  rintro e w' ⟨he, h1, h2⟩
  exact ⟨he, ⟨h1, fun i hi => hT.low i (foot_inv i hi)⟩, h2⟩

theorem apart_start {B a1 m1 a2 m2 jn : Nat} {W0 w1 w2 : World} (h1 : TabB B w1 a1 m1 [] 0) (hb : Below B W0 w1) (h2 : TabA w2 a2 m2 [] 0) (hb2 : Below w1.heap.size w1 w2) (ha : w1.heap.size ≤ a2) (hm : w1.heap.size ≤ m2) : ApR B W0 a1 m1 a2 m2 jn 0 0 w2 := by
  have hB : B ≤ w1.heap.size := Nat.le_trans (h1.low a1 (.inl rfl)) (Nat.le_of_lt (lt_of_get h1.tab.hd))
  refine ⟨[], 0, [], 0, ⟨by omega, by omega, by omega, by omega, trivial⟩, ⟨⟨h1.tab.keep (Keep.of_below hb2 (fun _ => False)) (fun _ _ x => x), h1.low⟩, ⟨h2, ?_⟩, ?_, hb.trans (hb2.mono hB)⟩⟩
  · rintro i (rfl | rfl | ⟨q, hq, _⟩)
    · omega
    · omega
    · simp at hq
  · intro i hi hi2
    have := foot_lt h1.tab i hi
    rcases hi2 with rfl | rfl | ⟨q, hq, _⟩
    · omega
    · omega
    · simp at hq

theorem apart_calls (B : Nat) (a : Option Addr) (g off len cap : Nat) (f : Nat → Nat → Int) (wh : Int) (w : World) (hx : ArgN w a g off len 3 f) (_hl : len ≤ 9223372036854775807) (hwh : okI wh) (hB : B ≤ w.heap.size) (hg : len = 0 ∨ g < B) :
    Calls Try.prog 6 #[.slice a len cap, .int .i64 wh] w fun e w' => e = .returned (.bool true) ∧ Below B w w' := by
  have HX := Lib.hid hx
  have HB := Lib.hid hB
  have HG := Lib.hid hg
  have HWH := Lib.hid hwh
  clear hx hB hg hwh
  go_enter Try.func6, Try.ntmps6
  go_wp2_with (first | (go_at_call 8; refine (sane_calls _).mono ?_; rintro e w1 ⟨rfl, hb1⟩; have HB1 := Lib.hid (hb1.mono HB.out); clear hb1) | (go_at_call 12; refine (pick_calls wh 4 4 _ (by omega) (by omega) (by omega) HWH.out).mono ?_; rintro e w' ⟨rfl, rfl⟩; have hjn := pickN_lt wh 4 (by omega); generalize pickN wh 4 = jn at hjn ⊢))
  refine (new_b B _ (Nat.le_trans HB.out HB1.out.size)).mono ?_
  rintro e w2 ⟨a1, m1, rfl, hT, hb2⟩
  have HT := Lib.hid hT
  have HB2 := Lib.hid (HB1.out.trans hb2)
  clear hT hb2
  go_wp2_with fail
  refine (new_calls _).mono ?_
  rintro e w3 ⟨a2, m2, rfl, hT2, hb3, h3, h4⟩
  have HS := Lib.hid (apart_start (jn := jn) HT.out HB2.out hT2 hb3 h3 h4)
  clear hT2 hb3 h3 h4
  go_wp2_with fail
  go_loopw [9, 10] (fun now i wr => ∃ (k : Nat) (nw : Int), i = .int .i64 k ∧ now = .int .i64 nw ∧ k ≤ 60 ∧ ApR B w a1 m1 a2 m2 jn k nw wr) (fun _ i _ => 60 - (intOf i).toNat)
  case atStart => exact ⟨0, 0, rfl, rfl, by omega, HS.out⟩
  case round =>
    obtain ⟨k, nw, rfl, rfl, hk60, A1, n1, A2, n2, hP, hI⟩ := hrel
    have HP := Lib.hid hP
    have HI := Lib.hid hI
    clear HS hP hI HT HB1 HB2
    by_cases hk : k < len ∧ k < 60
    · obtain ⟨hk1, hk2⟩ := hk
      have hX := HX.out.below HI.out.below HG.out
      obtain rfl : a = some ⟨g, off, none⟩ := hX.ad.resolve_left (by omega)
      have hc0 := hX.cell k 0 hk1 (by omega)
      rw [Nat.add_zero] at hc0
      have hc1 := hX.cell k 1 hk1 (by omega)
      have hc2 := hX.cell k 2 hk1 (by omega)
      have ho0 := hX.ok k 0 hk1 (by omega)
      have ho1 := hX.ok k 1 hk1 (by omega)
      have ho2 := hX.ok k 2 hk1 (by omega)
      clear hX
      generalize f k 0 = x0 at *
      generalize f k 1 = x1 at *
      generalize f k 2 = x2 at *
      have HO0 := Lib.hid ho0
      have HO1 := Lib.hid ho1
      have HO2 := Lib.hid ho2
      clear ho0 ho1 ho2
      have hnow0 := HP.out.now0
      have hnow1 := HP.out.now1
      have HTW := Lib.hid (HI.out.with #[.int .i64 x0, .int .i64 x1, .int .i64 x2] 45)
      have HSAME := Lib.hid HP.out.same
      generalize hX0 : wr.heap.size = X at HTW
      have HX0 := Lib.hid hX0
      clear hX0
      go_wp2_with (first | (go_at_call 12; first | ((with_reducible refine (pick_calls x1 4 4 _ (by omega) (by omega) (by omega) HO1.out).mono ?_); rintro e w' ⟨rfl, rfl⟩; have hj := pickN_lt x1 4 (by omega); generalize pickN x1 4 = j at hj ⊢) | ((with_reducible refine (pick_calls x2 9 9 _ (by omega) (by omega) (by omega) HO2.out).mono ?_); rintro e w' ⟨rfl, rfl⟩; have hd := pickN_lt x2 9 (by omega); generalize pickN x2 9 = d at hd ⊢)))
      refine (key_nat jn _ hjn).mono ?_
      rintro e w4 ⟨rfl, hb4⟩
      have T4 := Lib.hid (HTW.out.grow hb4)
      clear hb4
      go_wp2_with fail
      refine (current_calls (keyB jn) a1 m1 A1 n1 w4 T4.out.l.t1.tab).mono ?_
      rintro e w4' ⟨rfl, rfl⟩
      go_wp2_with fail
      refine (key_nat jn _ hjn).mono ?_
      rintro e w5 ⟨rfl, hb5⟩
      have T5 := Lib.hid (T4.out.grow hb5)
      clear hb5
      go_wp2_with fail
      refine (current_calls (keyB jn) a2 m2 A2 n2 w5 T5.out.l.t2.tab).mono ?_
      rintro e w5' ⟨rfl, rfl⟩
      have hone : (tokOf (mlook (keyB jn) A1) = 0 ∧ tokOf (mlook (keyB jn) A2) = 0) ∨ (1 ≤ tokOf (mlook (keyB jn) A1) ∧ 1 ≤ tokOf (mlook (keyB jn) A2)) := by
        rcases same_zero HSAME.out with ⟨e1, e2⟩ | ⟨p, q, e1, e2, h1, h2, _⟩
        · left; rw [e1, e2]; exact ⟨rfl, rfl⟩
        · right; rw [e1, e2]; exact ⟨h1, h2⟩
      generalize htw : tokOf (mlook (keyB jn) A2) = two at hone
      generalize tokOf (mlook (keyB jn) A1) = one at hone
      have HTWO := Lib.hid htw
      clear htw
      have hcx0 : w5.cell? ⟨X, 0, none⟩ = some (.int .i64 x0) := cell_of_block T5.out.x rfl
      have hcx2 : w5.cell? ⟨X, 2, none⟩ = some (.int .i64 x2) := cell_of_block T5.out.x rfl
      rw [HX0.out]
      have hn1 : n1 < 1000000 := by have := HP.out.le1; omega
      have hn2 : n2 < 1000000 := by have := HP.out.le2; omega
      rcases hone with ⟨rfl, hz⟩ | ⟨hone, htwo⟩
      · subst hz
        go_wp2_with (first | (go_at_call 12; first | ((with_reducible refine (pick_calls x0 4 4 _ (by omega) (by omega) (by omega) HO0.out).mono ?_); rintro e w' ⟨rfl, rfl⟩; generalize pickN x0 4 = c)) | (go_at_call 11; refine (key_nat _ _ hj).mono ?_; rintro e w6 ⟨rfl, hb6⟩; have T6 := Lib.hid (T5.out.grow hb6); clear hb6))
        · refine (ask_any B (keyB j) _ a1 m1 A1 n1 w6 T6.out.l.t1 T6.out.l.size hn1).mono ?_
          rintro e w7 (⟨rfl, ha, hT7, hK7⟩ | ⟨rfl, ha, rfl⟩)
          · have T7 := Lib.hid (T6.out.op1 hT7 hK7 (fun i hi => (foot_mput i hi).elim .inl (fun e => .inr (Nat.le_of_eq e.symm))))
            clear hT7 hK7
            have HA := Lib.hid ha
            clear ha
            by_cases hjj : j = jn
            · subst hjj
              go_wp2_with (first | (go_at_call 11; refine (key_nat _ _ hj).mono ?_; rintro e w8 ⟨rfl, hb8⟩; have T8 := Lib.hid (T7.out.grow hb8); clear hb8))
              refine (ask_any B (keyB j) _ a2 m2 A2 n2 w8 T8.out.l.t2 T8.out.l.size hn2).mono ?_
              rintro e w9 (⟨rfl, _, hT9, hK9⟩ | ⟨rfl, ha, rfl⟩)
              · have T9 := Lib.hid (T8.out.op2 hT9 hK9 (fun i hi => (foot_mput i hi).elim .inl (fun e => .inr (Nat.le_of_eq e.symm))))
                have HNEXT := Lib.hid (ap_ask2 (p1 := w6.heap.size) (p2 := w8.heap.size) (t := nw + d) HP.out hd HI.out.t1.tab.n0 HI.out.t2.tab.n0)
                clear hT9 hK9
                go_wp2
                go_roundw
                case rel => exact ⟨k + 1, _, by go_num, rfl, by omega, _, _, _, _, HNEXT.out, T9.out.l⟩
                case measure => simp [intOf]; omega
              · rw [← same_asks HSAME.out, HA.out] at ha; simp at ha
            · have hjj2 : ((j : Int) == (jn : Int)) = false := by simp; omega
              have HNEXT := Lib.hid (ap_ask1 (p := w6.heap.size) (t := nw + d) HP.out hd hj hjn hjj)
              go_wp2
              go_roundw
              case rel => exact ⟨k + 1, _, by go_num, rfl, by omega, _, _, _, _, HNEXT.out, T7.out.l⟩
              case measure => simp [intOf]; omega
          · have HA := Lib.hid ha
            clear ha
            have HNEXT := Lib.hid (ap_next HP.out hd)
            by_cases hjj : j = jn
            · subst hjj
              go_wp2_with (first | (go_at_call 11; refine (key_nat _ _ hj).mono ?_; rintro e w8 ⟨rfl, hb8⟩; have T8 := Lib.hid (T6.out.grow hb8); clear hb8))
              refine (ask_any B (keyB j) _ a2 m2 A2 n2 w8 T8.out.l.t2 T8.out.l.size hn2).mono ?_
              rintro e w9 (⟨rfl, ha, hT9, hK9⟩ | ⟨rfl, ha, rfl⟩)
              · rw [← same_asks HSAME.out, HA.out] at ha; simp at ha
              · clear ha
                go_wp2
                go_roundw
                case rel => exact ⟨k + 1, _, by go_num, rfl, by omega, _, _, _, _, HNEXT.out, T8.out.l⟩
                case measure => simp [intOf]; omega
            · have hjj2 : ((j : Int) == (jn : Int)) = false := by simp; omega
              go_wp2
              go_roundw
              case rel => exact ⟨k + 1, _, by go_num, rfl, by omega, _, _, _, _, HNEXT.out, T6.out.l⟩
              case measure => simp [intOf]; omega
        · refine (ask_any B (keyB j) _ a1 m1 A1 n1 w6 T6.out.l.t1 T6.out.l.size hn1).mono ?_
          rintro e w7 (⟨rfl, ha, hT7, hK7⟩ | ⟨rfl, ha, rfl⟩)
          · have T7 := Lib.hid (T6.out.op1 hT7 hK7 (fun i hi => (foot_mput i hi).elim .inl (fun e => .inr (Nat.le_of_eq e.symm))))
            clear hT7 hK7
            have HA := Lib.hid ha
            clear ha
            by_cases hjj : j = jn
            · subst hjj
              go_wp2_with (first | (go_at_call 11; refine (key_nat _ _ hj).mono ?_; rintro e w8 ⟨rfl, hb8⟩; have T8 := Lib.hid (T7.out.grow hb8); clear hb8))
              refine (ask_any B (keyB j) _ a2 m2 A2 n2 w8 T8.out.l.t2 T8.out.l.size hn2).mono ?_
              rintro e w9 (⟨rfl, _, hT9, hK9⟩ | ⟨rfl, ha, rfl⟩)
              · have T9 := Lib.hid (T8.out.op2 hT9 hK9 (fun i hi => (foot_mput i hi).elim .inl (fun e => .inr (Nat.le_of_eq e.symm))))
                have HNEXT := Lib.hid (ap_ask2 (p1 := w6.heap.size) (p2 := w8.heap.size) (t := nw + d) HP.out hd HI.out.t1.tab.n0 HI.out.t2.tab.n0)
                clear hT9 hK9
                go_wp2
                go_roundw
                case rel => exact ⟨k + 1, _, by go_num, rfl, by omega, _, _, _, _, HNEXT.out, T9.out.l⟩
                case measure => simp [intOf]; omega
              · rw [← same_asks HSAME.out, HA.out] at ha; simp at ha
            · have hjj2 : ((j : Int) == (jn : Int)) = false := by simp; omega
              have HNEXT := Lib.hid (ap_ask1 (p := w6.heap.size) (t := nw + d) HP.out hd hj hjn hjj)
              go_wp2
              go_roundw
              case rel => exact ⟨k + 1, _, by go_num, rfl, by omega, _, _, _, _, HNEXT.out, T7.out.l⟩
              case measure => simp [intOf]; omega
          · have HA := Lib.hid ha
            clear ha
            have HNEXT := Lib.hid (ap_next HP.out hd)
            by_cases hjj : j = jn
            · subst hjj
              go_wp2_with (first | (go_at_call 11; refine (key_nat _ _ hj).mono ?_; rintro e w8 ⟨rfl, hb8⟩; have T8 := Lib.hid (T6.out.grow hb8); clear hb8))
              refine (ask_any B (keyB j) _ a2 m2 A2 n2 w8 T8.out.l.t2 T8.out.l.size hn2).mono ?_
              rintro e w9 (⟨rfl, ha, hT9, hK9⟩ | ⟨rfl, ha, rfl⟩)
              · rw [← same_asks HSAME.out, HA.out] at ha; simp at ha
              · clear ha
                go_wp2
                go_roundw
                case rel => exact ⟨k + 1, _, by go_num, rfl, by omega, _, _, _, _, HNEXT.out, T8.out.l⟩
                case measure => simp [intOf]; omega
            · have hjj2 : ((j : Int) == (jn : Int)) = false := by simp; omega
              go_wp2
              go_roundw
              case rel => exact ⟨k + 1, _, by go_num, rfl, by omega, _, _, _, _, HNEXT.out, T6.out.l⟩
              case measure => simp [intOf]; omega
        · have T5D := Lib.hid (T5.out.grow ((Below.refl _ w5).drew))
          go_region_held3 (fun w' => w'.cell? ⟨X, 2, none⟩ = some (.int .i64 x2)) (first | go_keep | assumption) (first | (go_at_call 11; refine (key_nat _ _ hj).mono ?_; rintro e w6 ⟨rfl, hb6⟩; have T6 := Lib.hid (T5D.out.grow hb6); clear hb6; have hc6 : w6.cell? ⟨X, 2, none⟩ = some (.int .i64 x2) := cell_of_block T6.out.x rfl) | (go_at_call 12; refine (pick_calls x2 12 12 _ (by omega) (by omega) (by omega) HO2.out).mono ?_; rintro e w' ⟨rfl, rfl⟩) | (go_at_call 15; refine (inval_k B (keyB j) (pickN x2 12) a1 m1 A1 n1 w6 T6.out.l.t1).mono ?_; rintro e w7 ⟨rfl, hT7, hK7⟩; have T7 := Lib.hid (T6.out.op1 hT7 hK7 (fun i hi => .inl (foot_inv i hi))); clear hT7 hK7; have hc7 : w7.cell? ⟨X, 2, none⟩ = some (.int .i64 x2) := cell_of_block T7.out.x rfl))
          by_cases hjj : j = jn
          · subst hjj
            go_wp2_with fail
            have T7D := Lib.hid (T7.out.grow ((Below.refl _ w7).drew))
            go_region_held3 (fun w' => w'.cell? ⟨X, 2, none⟩ = some (.int .i64 x2)) (first | go_keep | assumption) (first | (go_at_call 11; refine (key_nat _ _ hj).mono ?_; rintro e w8 ⟨rfl, hb8⟩; have T8 := Lib.hid (T7D.out.grow hb8); clear hb8; have hc8 : w8.cell? ⟨X, 2, none⟩ = some (.int .i64 x2) := cell_of_block T8.out.x rfl) | (go_at_call 12; refine (pick_calls x2 12 12 _ (by omega) (by omega) (by omega) HO2.out).mono ?_; rintro e w' ⟨rfl, rfl⟩) | (go_at_call 15; refine (inval_k B (keyB j) (pickN x2 12) a2 m2 A2 n2 w8 T8.out.l.t2).mono ?_; rintro e w9 ⟨rfl, hT9, hK9⟩; have T9 := Lib.hid (T8.out.op2 hT9 hK9 (fun i hi => .inl (foot_inv i hi))); clear hT9 hK9; have hc9 : w9.cell? ⟨X, 2, none⟩ = some (.int .i64 x2) := cell_of_block T9.out.x rfl))
            have HNEXT := Lib.hid (ap_inv2 (p := (pickN x2 12 : Int)) HP.out hd)
            go_wp2
            go_roundw
            case rel => exact ⟨k + 1, _, by go_num, rfl, by omega, _, _, _, _, HNEXT.out, T9.out.l⟩
            case measure => simp [intOf]; omega
          · have hjj2 : ((j : Int) == (jn : Int)) = false := by simp; omega
            have HNEXT := Lib.hid (ap_inv1 (p := (pickN x2 12 : Int)) HP.out hd hj hjn hjj)
            go_wp2
            go_roundw
            case rel => exact ⟨k + 1, _, by go_num, rfl, by omega, _, _, _, _, HNEXT.out, T7.out.l⟩
            case measure => simp [intOf]; omega
        · have T5D := Lib.hid (T5.out.grow ((Below.refl _ w5).drew))
          go_region_held3 (fun w' => w'.cell? ⟨X, 2, none⟩ = some (.int .i64 x2)) (first | go_keep | assumption) (first | (go_at_call 11; first | (have _t := T6; refine (key_nat _ _ hj).mono ?_; rintro e w6b ⟨rfl, hb6⟩; have T6b := Lib.hid (T6.out.grow hb6); clear hb6; have hc6b : w6b.cell? ⟨X, 2, none⟩ = some (.int .i64 x2) := cell_of_block T6b.out.x rfl) | (refine (key_nat _ _ hj).mono ?_; rintro e w6 ⟨rfl, hb6⟩; have T6 := Lib.hid (T5D.out.grow hb6); clear hb6; have hc6 : w6.cell? ⟨X, 2, none⟩ = some (.int .i64 x2) := cell_of_block T6.out.x rfl)) | (go_at_call 12; refine (pick_calls x2 12 12 _ (by omega) (by omega) (by omega) HO2.out).mono ?_; rintro e w' ⟨rfl, rfl⟩) | (go_at_call 23; refine (current_calls (keyB j) a1 m1 A1 n1 w6b T6b.out.l.t1.tab).mono ?_; rintro e w' ⟨rfl, rfl⟩) | (go_at_call 18; refine (fill_cur B (keyB j) (pickN x2 12) a1 m1 A1 n1 w6b T6b.out.l.t1).mono ?_; rintro e w7 ⟨rfl, hT7, hK7⟩; have T7 := Lib.hid (T6b.out.op1 hT7 hK7 (fun i hi => .inl (foot_mdel i hi))); clear hT7 hK7; have hc7 : w7.cell? ⟨X, 2, none⟩ = some (.int .i64 x2) := cell_of_block T7.out.x rfl))
          by_cases hjj : j = jn
          · subst hjj
            go_wp2_with fail
            have T7D := Lib.hid (T7.out.grow ((Below.refl _ w7).drew))
            have HF2 := fill_cur B (keyB j) (pickN x2 12) a2 m2 A2 n2
            rw [HTWO.out] at HF2
            have HF := Lib.hid HF2
            clear HF2
            go_region_held3 (fun w' => w'.cell? ⟨X, 2, none⟩ = some (.int .i64 x2)) (first | go_keep | assumption) (first | (go_at_call 11; refine (key_nat _ _ hj).mono ?_; rintro e w8 ⟨rfl, hb8⟩; have T8 := Lib.hid (T7D.out.grow hb8); clear hb8; have hc8 : w8.cell? ⟨X, 2, none⟩ = some (.int .i64 x2) := cell_of_block T8.out.x rfl) | (go_at_call 12; refine (pick_calls x2 12 12 _ (by omega) (by omega) (by omega) HO2.out).mono ?_; rintro e w' ⟨rfl, rfl⟩) | (go_at_call 18; refine (HF.out w8 T8.out.l.t2).mono ?_; rintro e w9 ⟨rfl, hT9, hK9⟩; have T9 := Lib.hid (T8.out.op2 hT9 hK9 (fun i hi => .inl (foot_mdel i hi))); clear hT9 hK9; have hc9 : w9.cell? ⟨X, 2, none⟩ = some (.int .i64 x2) := cell_of_block T9.out.x rfl))
            have HNEXT := Lib.hid (ap_del2 HP.out hd HI.out.t1.tab.keys HI.out.t2.tab.keys)
            rw [← same_cur HSAME.out]
            generalize curB (pickN x2 12) (mlook (keyB j) A1) = cb
            cases cb
            all_goals
              go_wp2
              go_roundw
              case rel => exact ⟨k + 1, _, by go_num, rfl, by omega, _, _, _, _, HNEXT.out, T9.out.l⟩
              case measure => simp [intOf]; omega
          · have hjj2 : ((j : Int) == (jn : Int)) = false := by simp; omega
            have HNEXT := Lib.hid (ap_del1 HP.out hd hj hjn hjj)
            go_wp2
            go_roundw
            case rel => exact ⟨k + 1, _, by go_num, rfl, by omega, _, _, _, _, HNEXT.out, T7.out.l⟩
            case measure => simp [intOf]; omega
      · have hz1 : (one == 0) = false := by simp; omega
        have hz2 : (two == 0) = false := by simp; omega
        go_wp2_with (first | (go_at_call 12; first | ((with_reducible refine (pick_calls x0 4 4 _ (by omega) (by omega) (by omega) HO0.out).mono ?_); rintro e w' ⟨rfl, rfl⟩; generalize pickN x0 4 = c)) | (go_at_call 11; refine (key_nat _ _ hj).mono ?_; rintro e w6 ⟨rfl, hb6⟩; have T6 := Lib.hid (T5.out.grow hb6); clear hb6))
        · refine (ask_any B (keyB j) _ a1 m1 A1 n1 w6 T6.out.l.t1 T6.out.l.size hn1).mono ?_
          rintro e w7 (⟨rfl, ha, hT7, hK7⟩ | ⟨rfl, ha, rfl⟩)
          · have T7 := Lib.hid (T6.out.op1 hT7 hK7 (fun i hi => (foot_mput i hi).elim .inl (fun e => .inr (Nat.le_of_eq e.symm))))
            clear hT7 hK7
            have HA := Lib.hid ha
            clear ha
            by_cases hjj : j = jn
            · subst hjj
              go_wp2_with (first | (go_at_call 11; refine (key_nat _ _ hj).mono ?_; rintro e w8 ⟨rfl, hb8⟩; have T8 := Lib.hid (T7.out.grow hb8); clear hb8))
              refine (ask_any B (keyB j) _ a2 m2 A2 n2 w8 T8.out.l.t2 T8.out.l.size hn2).mono ?_
              rintro e w9 (⟨rfl, _, hT9, hK9⟩ | ⟨rfl, ha, rfl⟩)
              · have T9 := Lib.hid (T8.out.op2 hT9 hK9 (fun i hi => (foot_mput i hi).elim .inl (fun e => .inr (Nat.le_of_eq e.symm))))
                have HNEXT := Lib.hid (ap_ask2 (p1 := w6.heap.size) (p2 := w8.heap.size) (t := nw + d) HP.out hd HI.out.t1.tab.n0 HI.out.t2.tab.n0)
                clear hT9 hK9
                go_wp2
                go_roundw
                case rel => exact ⟨k + 1, _, by go_num, rfl, by omega, _, _, _, _, HNEXT.out, T9.out.l⟩
                case measure => simp [intOf]; omega
              · rw [← same_asks HSAME.out, HA.out] at ha; simp at ha
            · have hjj2 : ((j : Int) == (jn : Int)) = false := by simp; omega
              have HNEXT := Lib.hid (ap_ask1 (p := w6.heap.size) (t := nw + d) HP.out hd hj hjn hjj)
              go_wp2
              go_roundw
              case rel => exact ⟨k + 1, _, by go_num, rfl, by omega, _, _, _, _, HNEXT.out, T7.out.l⟩
              case measure => simp [intOf]; omega
          · have HA := Lib.hid ha
            clear ha
            have HNEXT := Lib.hid (ap_next HP.out hd)
            by_cases hjj : j = jn
            · subst hjj
              go_wp2_with (first | (go_at_call 11; refine (key_nat _ _ hj).mono ?_; rintro e w8 ⟨rfl, hb8⟩; have T8 := Lib.hid (T6.out.grow hb8); clear hb8))
              refine (ask_any B (keyB j) _ a2 m2 A2 n2 w8 T8.out.l.t2 T8.out.l.size hn2).mono ?_
              rintro e w9 (⟨rfl, ha, hT9, hK9⟩ | ⟨rfl, ha, rfl⟩)
              · rw [← same_asks HSAME.out, HA.out] at ha; simp at ha
              · clear ha
                go_wp2
                go_roundw
                case rel => exact ⟨k + 1, _, by go_num, rfl, by omega, _, _, _, _, HNEXT.out, T8.out.l⟩
                case measure => simp [intOf]; omega
            · have hjj2 : ((j : Int) == (jn : Int)) = false := by simp; omega
              go_wp2
              go_roundw
              case rel => exact ⟨k + 1, _, by go_num, rfl, by omega, _, _, _, _, HNEXT.out, T6.out.l⟩
              case measure => simp [intOf]; omega
        · refine (ask_any B (keyB j) _ a1 m1 A1 n1 w6 T6.out.l.t1 T6.out.l.size hn1).mono ?_
          rintro e w7 (⟨rfl, ha, hT7, hK7⟩ | ⟨rfl, ha, rfl⟩)
          · have T7 := Lib.hid (T6.out.op1 hT7 hK7 (fun i hi => (foot_mput i hi).elim .inl (fun e => .inr (Nat.le_of_eq e.symm))))
            clear hT7 hK7
            have HA := Lib.hid ha
            clear ha
            by_cases hjj : j = jn
            · subst hjj
              go_wp2_with (first | (go_at_call 11; refine (key_nat _ _ hj).mono ?_; rintro e w8 ⟨rfl, hb8⟩; have T8 := Lib.hid (T7.out.grow hb8); clear hb8))
              refine (ask_any B (keyB j) _ a2 m2 A2 n2 w8 T8.out.l.t2 T8.out.l.size hn2).mono ?_
              rintro e w9 (⟨rfl, _, hT9, hK9⟩ | ⟨rfl, ha, rfl⟩)
              · have T9 := Lib.hid (T8.out.op2 hT9 hK9 (fun i hi => (foot_mput i hi).elim .inl (fun e => .inr (Nat.le_of_eq e.symm))))
                have HNEXT := Lib.hid (ap_ask2 (p1 := w6.heap.size) (p2 := w8.heap.size) (t := nw + d) HP.out hd HI.out.t1.tab.n0 HI.out.t2.tab.n0)
                clear hT9 hK9
                go_wp2
                go_roundw
                case rel => exact ⟨k + 1, _, by go_num, rfl, by omega, _, _, _, _, HNEXT.out, T9.out.l⟩
                case measure => simp [intOf]; omega
              · rw [← same_asks HSAME.out, HA.out] at ha; simp at ha
            · have hjj2 : ((j : Int) == (jn : Int)) = false := by simp; omega
              have HNEXT := Lib.hid (ap_ask1 (p := w6.heap.size) (t := nw + d) HP.out hd hj hjn hjj)
              go_wp2
              go_roundw
              case rel => exact ⟨k + 1, _, by go_num, rfl, by omega, _, _, _, _, HNEXT.out, T7.out.l⟩
              case measure => simp [intOf]; omega
          · have HA := Lib.hid ha
            clear ha
            have HNEXT := Lib.hid (ap_next HP.out hd)
            by_cases hjj : j = jn
            · subst hjj
              go_wp2_with (first | (go_at_call 11; refine (key_nat _ _ hj).mono ?_; rintro e w8 ⟨rfl, hb8⟩; have T8 := Lib.hid (T6.out.grow hb8); clear hb8))
              refine (ask_any B (keyB j) _ a2 m2 A2 n2 w8 T8.out.l.t2 T8.out.l.size hn2).mono ?_
              rintro e w9 (⟨rfl, ha, hT9, hK9⟩ | ⟨rfl, ha, rfl⟩)
              · rw [← same_asks HSAME.out, HA.out] at ha; simp at ha
              · clear ha
                go_wp2
                go_roundw
                case rel => exact ⟨k + 1, _, by go_num, rfl, by omega, _, _, _, _, HNEXT.out, T8.out.l⟩
                case measure => simp [intOf]; omega
            · have hjj2 : ((j : Int) == (jn : Int)) = false := by simp; omega
              go_wp2
              go_roundw
              case rel => exact ⟨k + 1, _, by go_num, rfl, by omega, _, _, _, _, HNEXT.out, T6.out.l⟩
              case measure => simp [intOf]; omega
        · have T5D := Lib.hid (T5.out.grow ((Below.refl _ w5).drew))
          go_region_held3 (fun w' => w'.cell? ⟨X, 2, none⟩ = some (.int .i64 x2)) (first | go_keep | assumption) (first | (go_at_call 11; refine (key_nat _ _ hj).mono ?_; rintro e w6 ⟨rfl, hb6⟩; have T6 := Lib.hid (T5D.out.grow hb6); clear hb6; have hc6 : w6.cell? ⟨X, 2, none⟩ = some (.int .i64 x2) := cell_of_block T6.out.x rfl) | (go_at_call 12; refine (pick_calls x2 12 12 _ (by omega) (by omega) (by omega) HO2.out).mono ?_; rintro e w' ⟨rfl, rfl⟩) | (go_at_call 15; refine (inval_k B (keyB j) (pickN x2 12) a1 m1 A1 n1 w6 T6.out.l.t1).mono ?_; rintro e w7 ⟨rfl, hT7, hK7⟩; have T7 := Lib.hid (T6.out.op1 hT7 hK7 (fun i hi => .inl (foot_inv i hi))); clear hT7 hK7; have hc7 : w7.cell? ⟨X, 2, none⟩ = some (.int .i64 x2) := cell_of_block T7.out.x rfl))
          by_cases hjj : j = jn
          · subst hjj
            go_wp2_with fail
            have T7D := Lib.hid (T7.out.grow ((Below.refl _ w7).drew))
            go_region_held3 (fun w' => w'.cell? ⟨X, 2, none⟩ = some (.int .i64 x2)) (first | go_keep | assumption) (first | (go_at_call 11; refine (key_nat _ _ hj).mono ?_; rintro e w8 ⟨rfl, hb8⟩; have T8 := Lib.hid (T7D.out.grow hb8); clear hb8; have hc8 : w8.cell? ⟨X, 2, none⟩ = some (.int .i64 x2) := cell_of_block T8.out.x rfl) | (go_at_call 12; refine (pick_calls x2 12 12 _ (by omega) (by omega) (by omega) HO2.out).mono ?_; rintro e w' ⟨rfl, rfl⟩) | (go_at_call 15; refine (inval_k B (keyB j) (pickN x2 12) a2 m2 A2 n2 w8 T8.out.l.t2).mono ?_; rintro e w9 ⟨rfl, hT9, hK9⟩; have T9 := Lib.hid (T8.out.op2 hT9 hK9 (fun i hi => .inl (foot_inv i hi))); clear hT9 hK9; have hc9 : w9.cell? ⟨X, 2, none⟩ = some (.int .i64 x2) := cell_of_block T9.out.x rfl))
            have HNEXT := Lib.hid (ap_inv2 (p := (pickN x2 12 : Int)) HP.out hd)
            go_wp2
            go_roundw
            case rel => exact ⟨k + 1, _, by go_num, rfl, by omega, _, _, _, _, HNEXT.out, T9.out.l⟩
            case measure => simp [intOf]; omega
          · have hjj2 : ((j : Int) == (jn : Int)) = false := by simp; omega
            have HNEXT := Lib.hid (ap_inv1 (p := (pickN x2 12 : Int)) HP.out hd hj hjn hjj)
            go_wp2
            go_roundw
            case rel => exact ⟨k + 1, _, by go_num, rfl, by omega, _, _, _, _, HNEXT.out, T7.out.l⟩
            case measure => simp [intOf]; omega
        · have T5D := Lib.hid (T5.out.grow ((Below.refl _ w5).drew))
          go_region_held3 (fun w' => w'.cell? ⟨X, 2, none⟩ = some (.int .i64 x2)) (first | go_keep | assumption) (first | (go_at_call 11; first | (have _t := T6; refine (key_nat _ _ hj).mono ?_; rintro e w6b ⟨rfl, hb6⟩; have T6b := Lib.hid (T6.out.grow hb6); clear hb6; have hc6b : w6b.cell? ⟨X, 2, none⟩ = some (.int .i64 x2) := cell_of_block T6b.out.x rfl) | (refine (key_nat _ _ hj).mono ?_; rintro e w6 ⟨rfl, hb6⟩; have T6 := Lib.hid (T5D.out.grow hb6); clear hb6; have hc6 : w6.cell? ⟨X, 2, none⟩ = some (.int .i64 x2) := cell_of_block T6.out.x rfl)) | (go_at_call 12; refine (pick_calls x2 12 12 _ (by omega) (by omega) (by omega) HO2.out).mono ?_; rintro e w' ⟨rfl, rfl⟩) | (go_at_call 23; refine (current_calls (keyB j) a1 m1 A1 n1 w6b T6b.out.l.t1.tab).mono ?_; rintro e w' ⟨rfl, rfl⟩) | (go_at_call 18; refine (fill_cur B (keyB j) (pickN x2 12) a1 m1 A1 n1 w6b T6b.out.l.t1).mono ?_; rintro e w7 ⟨rfl, hT7, hK7⟩; have T7 := Lib.hid (T6b.out.op1 hT7 hK7 (fun i hi => .inl (foot_mdel i hi))); clear hT7 hK7; have hc7 : w7.cell? ⟨X, 2, none⟩ = some (.int .i64 x2) := cell_of_block T7.out.x rfl))
          by_cases hjj : j = jn
          · subst hjj
            go_wp2_with fail
            have T7D := Lib.hid (T7.out.grow ((Below.refl _ w7).drew))
            have HF2 := fill_cur B (keyB j) (pickN x2 12) a2 m2 A2 n2
            rw [HTWO.out] at HF2
            have HF := Lib.hid HF2
            clear HF2
            go_region_held3 (fun w' => w'.cell? ⟨X, 2, none⟩ = some (.int .i64 x2)) (first | go_keep | assumption) (first | (go_at_call 11; refine (key_nat _ _ hj).mono ?_; rintro e w8 ⟨rfl, hb8⟩; have T8 := Lib.hid (T7D.out.grow hb8); clear hb8; have hc8 : w8.cell? ⟨X, 2, none⟩ = some (.int .i64 x2) := cell_of_block T8.out.x rfl) | (go_at_call 12; refine (pick_calls x2 12 12 _ (by omega) (by omega) (by omega) HO2.out).mono ?_; rintro e w' ⟨rfl, rfl⟩) | (go_at_call 18; refine (HF.out w8 T8.out.l.t2).mono ?_; rintro e w9 ⟨rfl, hT9, hK9⟩; have T9 := Lib.hid (T8.out.op2 hT9 hK9 (fun i hi => .inl (foot_mdel i hi))); clear hT9 hK9; have hc9 : w9.cell? ⟨X, 2, none⟩ = some (.int .i64 x2) := cell_of_block T9.out.x rfl))
            have HNEXT := Lib.hid (ap_del2 HP.out hd HI.out.t1.tab.keys HI.out.t2.tab.keys)
            rw [← same_cur HSAME.out]
            generalize curB (pickN x2 12) (mlook (keyB j) A1) = cb
            cases cb
            all_goals
              go_wp2
              go_roundw
              case rel => exact ⟨k + 1, _, by go_num, rfl, by omega, _, _, _, _, HNEXT.out, T9.out.l⟩
              case measure => simp [intOf]; omega
          · have hjj2 : ((j : Int) == (jn : Int)) = false := by simp; omega
            have HNEXT := Lib.hid (ap_del1 HP.out hd hj hjn hjj)
            go_wp2
            go_roundw
            case rel => exact ⟨k + 1, _, by go_num, rfl, by omega, _, _, _, _, HNEXT.out, T7.out.l⟩
            case measure => simp [intOf]; omega
    · have h2 : len ≤ k ∨ (k < len ∧ 60 ≤ k) := by omega
      have HBW := Lib.hid HI.out.below
      rcases h2 with h2 | ⟨h2, h3⟩
      all_goals
        go_wp2
        go_ret
        exact ⟨rfl, HBW.out⟩
theorem apart_law {a : Option Addr} {g off len cap : Nat} {f : Nat → Nat → Int} {wh : Int} (w : World) (hx : ArgN w a g off len 3 f) (hl : len ≤ maxLen) (hwh : okI wh) :
    Calls Try.prog 6 #[.slice a len cap, .int .i64 wh] w fun e w' => e = .returned (.bool true) ∧ Below w.heap.size w w' :=
  apart_calls w.heap.size a g off len cap f wh w hx (by unfold maxLen at hl; omega) hwh (Nat.le_refl _) hx.low
end Go.Proofs.Ytgflkhifphpgpaa
