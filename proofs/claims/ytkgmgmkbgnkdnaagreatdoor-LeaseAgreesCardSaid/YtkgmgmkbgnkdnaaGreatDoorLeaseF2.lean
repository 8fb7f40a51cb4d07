/- The operations of the lease table as the laws use them. -/
/- The fixed calls of the laws of layer 16: all are answered as stated. -/
import Derived.Test.YtkgmgmkbgnkdnaaGreatDoorEz
import Derived.Test.YtkgmgmkbgnkdnaaGreatDoorLeaseD
namespace Go.Proofs.YtkgmgmkbgnkdnaaGreatDoor
open Go.Proofs.Tryz
open Go Go.RowKit Gw
open Go.ChangeMaps (setBlock)
set_option maxHeartbeats 400000

/- footprints -/
abbrev Ents := List (ByteArray × (Nat × Ls))
theorem TabA.keep {w w' : World} {b mb : Nat} {A : Ents} {n : Int} (h : TabA w b mb A n) {S : Nat → Prop} (hK : Keep S w w') (hd : ∀ i, foot b mb A i → ¬ S i) : TabA w' b mb A n :=
  ⟨hK.get h.hd (hd b (.inl rfl)), h.map.keep (hK.block mb h.map.lt (hd mb (.inr (.inl rfl)))), fun q hq => hK.get (h.ls q hq) (hd _ (.inr (.inr ⟨q, hq, rfl⟩))), h.nd, h.times, h.keys, h.n0, h.n1⟩
theorem foot_mput {b mb p : Nat} {A : Ents} {k : ByteArray} {x : Ls} : ∀ i, foot b mb (mput k (p, x) A) i → foot b mb A i ∨ i = p := by
  rintro i (rfl | rfl | ⟨q, hq, rfl⟩)
  · exact .inl (.inl rfl)
  · exact .inl (.inr (.inl rfl))
  · rcases mem_mput hq with rfl | hq
    · exact .inr rfl
    · exact .inl (.inr (.inr ⟨q, hq, rfl⟩))
theorem foot_sub {b mb : Nat} {A A' : Ents} (h : ∀ q ∈ A', ∃ q' ∈ A, q'.2.1 = q.2.1) : ∀ i, foot b mb A' i → foot b mb A i := by
  rintro i (rfl | rfl | ⟨q, hq, rfl⟩)
  · exact .inl rfl
  · exact .inr (.inl rfl)
  · obtain ⟨q', hq', e⟩ := h q hq
    exact .inr (.inr ⟨q', hq', e.symm⟩)
theorem foot_mdel {b mb : Nat} {A : Ents} {k : ByteArray} : ∀ i, foot b mb (mdel k A) i → foot b mb A i :=
  foot_sub fun q hq => ⟨q, (mdel_sublist k A).subset hq, rfl⟩
theorem foot_inv {b mb : Nat} {A : Ents} {k : ByteArray} {p : Int} : ∀ i, foot b mb (invA k p A) i → foot b mb A i := by
  refine foot_sub fun q hq => ?_
  unfold invA at hq
  split at hq
  · rename_i x hx
    rcases mem_mput hq with rfl | hq
    · exact ⟨(k, x), mlook_mem hx, rfl⟩
    · exact ⟨q, hq, rfl⟩
  · exact ⟨q, hq, rfl⟩

/- look-ups behind changes -/
/- the operations, with what each does to a lower bound of the blocks -/
structure TabB (B : Nat) (w : World) (b mb : Nat) (A : Ents) (n : Int) : Prop where
  tab : TabA w b mb A n
  low : ∀ i, foot b mb A i → B ≤ i
def asksB (now : Int) (o : Option (Nat × Ls)) : Bool := isTimeB now && (match o with | some x => oldB x.2.began now | none => true)
def AskAny (B : Nat) (k : ByteArray) (now : Int) (b mb : Nat) (A : Ents) (n : Int) (w : World) (e : Ending) (w' : World) : Prop :=
  (e = .returned (.tuple #[.int .i64 (n + 1), .bool true]) ∧ asksB now (mlook k A) = true ∧ TabB B w' b mb (mput k (w.heap.size, ⟨n + 1, now, 0⟩) A) (n + 1) ∧ Keep (foot b mb A) w w') ∨
  (e = .returned (.tuple #[.int .i64 0, .bool false]) ∧ asksB now (mlook k A) = false ∧ w = w')
theorem ask_any (B : Nat) (k : ByteArray) (now : Int) (b mb : Nat) (A : Ents) (n : Int) (w : World) (hT : TabB B w b mb A n) (hB : B ≤ w.heap.size) (hn : n < 1000000) :
    Calls Tryz.prog 12 #[.pointer (some ⟨b, 0, none⟩), .string k, .int .i64 now] w (AskAny B k now b mb A n w) := by
  cases ha : asksB now (mlook k A) with
  | true =>
    simp only [asksB, Bool.and_eq_true] at ha
    refine (ask_yes k now b mb A n w hT.tab hn ha.1 (fun x hx => by simpa [hx] using ha.2)).mono ?_
    rintro e w' ⟨rfl, h1, h2⟩
    refine .inl ⟨rfl, by simp only [asksB, Bool.and_eq_true]; exact ha, ⟨h1, fun i hi => ?_⟩, h2⟩
    rcases foot_mput i hi with h | h
    · exact hT.low i h
    · omega
  | false =>
    refine (ask_no k now b mb A n w hT.tab ?_).mono ?_
    · simp only [asksB, Bool.and_eq_false_iff] at ha
      rcases ha with ha | ha
      · exact .inl ha
      · right
        cases hx : mlook k A with
        | none => simp [hx] at ha
        | some x => exact ⟨x, rfl, by simpa [hx] using ha⟩
    · rintro e w' ⟨rfl, rfl⟩
      exact .inr ⟨rfl, ha, rfl⟩
def fillB (tok p : Int) (o : Option (Nat × Ls)) : Bool := match o with | some x => decide (x.2.tok = tok) && decide (x.2.bar ≤ p) | none => false
def FillAny (B : Nat) (k : ByteArray) (tok p : Int) (b mb : Nat) (A : Ents) (n : Int) (w : World) (e : Ending) (w' : World) : Prop :=
  e = .returned (.bool (fillB tok p (mlook k A))) ∧ TabB B w' b mb (if fitsA k tok A then mdel k A else A) n ∧ Keep (foot b mb A) w w'
theorem fill_any (B : Nat) (k : ByteArray) (tok p : Int) (b mb : Nat) (A : Ents) (n : Int) (w : World) (hT : TabB B w b mb A n) :
    Calls Tryz.prog 15 #[.pointer (some ⟨b, 0, none⟩), .string k, .int .i64 tok, .int .i64 p] w (FillAny B k tok p b mb A n w) := by
  cases hf : fitsA k tok A with
  | false =>
    refine (fill_no k tok p b mb A n w hT.tab hf).mono ?_
    rintro e w' ⟨rfl, rfl⟩
    refine ⟨?_, by simpa [hf] using hT, Keep.refl _ _⟩
    have : fillB tok p (mlook k A) = false := by
      unfold fitsA at hf
      unfold fillB
      cases hx : mlook k A with
      | none => rfl
      | some x => simp only [hx] at hf; simp only [hf, Bool.false_and]
    rw [this]
  | true =>
    unfold fitsA at hf
    cases hx : mlook k A with
    | none => simp [hx] at hf
    | some x =>
      have ht : x.2.tok = tok := by simpa [hx] using hf
      refine (fill_yes k tok p b mb A n w hT.tab x hx ht).mono ?_
      rintro e w' ⟨rfl, h1, h2⟩
      refine ⟨by simp [hx, fillB, ht], ?_, h2⟩
      have hf2 : fitsA k tok A = true := by simp [fitsA, hx, ht]
      rw [hf2]
      exact ⟨h1, fun i hi => hT.low i (foot_mdel i hi)⟩
end Go.Proofs.YtkgmgmkbgnkdnaaGreatDoor

namespace Go.Proofs.YtkgmgmkbgnkdnaaGreatDoor
open Go.Proofs.Tryz
open Go Go.RowKit Gw
open Go.ChangeMaps (setBlock)
set_option maxHeartbeats 1000000

def kA : ByteArray := ⟨#[97]⟩
def kB : ByteArray := ⟨#[98]⟩
theorem TabB.re {B : Nat} {w : World} {b mb : Nat} {A A' : Ents} {n n' : Int} (h : TabB B w b mb A n) (hA : A = A') (hn : n = n') : TabB B w b mb A' n' := by subst hA; subst hn; exact h
theorem keep_below {B : Nat} {b mb : Nat} {A : Ents} {w w' : World} (hK : Keep (foot b mb A) w w') (hB : B ≤ w.heap.size) (hl : ∀ i, foot b mb A i → B ≤ i) : Below B w w' := hK.belowN hB hl

theorem ask_yes_b {B : Nat} {w : World} {b mb : Nat} {A : Ents} {n : Int} (hT : TabB B w b mb A n) (hB : B ≤ w.heap.size) (k : ByteArray) (now : Int) (hn : n < 1000000) (h : asksB now (mlook k A) = true) :
    Calls Tryz.prog 12 #[.pointer (some ⟨b, 0, none⟩), .string k, .int .i64 now] w fun e w' =>
      e = .returned (.tuple #[.int .i64 (n + 1), .bool true]) ∧ ∃ p, TabB B w' b mb (mput k (p, ⟨n + 1, now, 0⟩) A) (n + 1) ∧ Below B w w' := by
  refine (ask_any B k now b mb A n w hT hB hn).mono ?_
  rintro e w' (⟨he, _, h1, h2⟩ | ⟨_, h1, _⟩)
  · exact ⟨he, _, h1, keep_below h2 hB hT.low⟩
  · rw [h] at h1; simp at h1
theorem ask_no_b {B : Nat} {w : World} {b mb : Nat} {A : Ents} {n : Int} (hT : TabB B w b mb A n) (hB : B ≤ w.heap.size) (k : ByteArray) (now : Int) (hn : n < 1000000) (h : asksB now (mlook k A) = false) :
    Calls Tryz.prog 12 #[.pointer (some ⟨b, 0, none⟩), .string k, .int .i64 now] w fun e w' => e = .returned (.tuple #[.int .i64 0, .bool false]) ∧ w = w' := by
  refine (ask_any B k now b mb A n w hT hB hn).mono ?_
  rintro e w' (⟨_, h1, _⟩ | ⟨he, _, h2⟩)
  · rw [h] at h1; simp at h1
  · exact ⟨he, h2⟩
theorem fill_b {B : Nat} {w : World} {b mb : Nat} {A : Ents} {n : Int} (hT : TabB B w b mb A n) (hB : B ≤ w.heap.size) (k : ByteArray) (tok p : Int) (r : Bool) (A' : Ents) (h : fillB tok p (mlook k A) = r) (hA : (if fitsA k tok A then mdel k A else A) = A') :
    Calls Tryz.prog 15 #[.pointer (some ⟨b, 0, none⟩), .string k, .int .i64 tok, .int .i64 p] w fun e w' => e = .returned (.bool r) ∧ TabB B w' b mb A' n ∧ Below B w w' := by
  refine (fill_any B k tok p b mb A n w hT).mono ?_
  rintro e w' ⟨he, h1, h2⟩
  rw [h] at he
  rw [hA] at h1
  exact ⟨he, h1, keep_below h2 hB hT.low⟩
theorem inval_b {B : Nat} {w : World} {b mb : Nat} {A : Ents} {n : Int} (hT : TabB B w b mb A n) (hB : B ≤ w.heap.size) (k : ByteArray) (p : Int) (A' : Ents) (hA : invA k p A = A') :
    Calls Tryz.prog 14 #[.pointer (some ⟨b, 0, none⟩), .string k, .int .i64 p] w fun e w' => e = .returned (.tuple #[]) ∧ TabB B w' b mb A' n ∧ Below B w w' := by
  refine (inval_calls k p b mb A n w hT.tab).mono ?_
  rintro e w' ⟨he, h1, h2⟩
  subst hA
  exact ⟨he, ⟨h1, fun i hi => hT.low i (foot_inv i hi)⟩, keep_below h2 hB hT.low⟩

theorem expire_b {B : Nat} {w : World} {b mb : Nat} {A : Ents} {n : Int} (hT : TabB B w b mb A n) (hB : B ≤ w.heap.size) (now : Int) (hnow : isTimeB now = true) (hl : A.length ≤ 1000000) :
    Calls Tryz.prog 18 #[.pointer (some ⟨b, 0, none⟩), .int .i64 now] w fun e w' => ∃ (A1 : Ents) (sv : Value) (xs : List ByteArray), e = .returned sv ∧ TabB B w' b mb A1 n ∧
      A1.Perm (A.filter fun q => !oldB q.2.2.began now) ∧ xs.Perm ((A.filter fun q => oldB q.2.2.began now).map (·.1)) ∧
      xs.Pairwise (fun x y => x.data.toList ≤ y.data.toList) ∧ w'.ownsRow (w.heap.size + 3) 9 1 sv xs.length (xs.map Value.string) ∧ Below B w w' := by
  refine (expire_calls now b mb A n w hT.tab hnow hl).mono ?_
  rintro e w' ⟨A1, sv, xs, he, h1, h2, h3, h4, h5, h6⟩
  refine ⟨A1, sv, xs, he, ⟨h1, fun i hi => hT.low i (foot_sub (fun q hq => ?_) i hi)⟩, h2, h3, h4, h5, h6.belowN hB fun i hi => hT.low i (.inr (.inl hi))⟩
  exact ⟨q, (List.mem_filter.1 (h2.mem_iff.1 hq)).1, rfl⟩
theorem own_one {w : World} {base : Nat} {sv : Value} {x : ByteArray} (h : w.ownsRow base 9 1 sv 1 [Value.string x]) : ∃ g cap, sv = .slice (some ⟨g, 0, none⟩) 1 cap ∧ w.cell? ⟨g, 0, none⟩ = some (.string x) := by
  rcases h.2 with ⟨_, h0⟩ | ⟨g, cap, cur, rfl, _, _⟩
  · simp at h0
  · exact ⟨g, cap, rfl, by rw [h.cellAt 0 (by omega)]; rfl⟩

theorem new_b (B : Nat) (w : World) (hB : B ≤ w.heap.size) : Calls Tryz.prog 11 #[] w fun e w' => ∃ b mb, e = .returned (.pointer (some ⟨b, 0, none⟩)) ∧ TabB B w' b mb [] 0 ∧ Below B w w' := by
  refine (new_calls w).mono ?_
  rintro e w' ⟨b, mb, rfl, h1, h2, h3, h4⟩
  refine ⟨b, mb, rfl, ⟨h1, ?_⟩, h2.mono hB⟩
  rintro i (rfl | rfl | ⟨q, hq, _⟩)
  · omega
  · omega
  · simp at hq

theorem sane_calls (w : World) : Calls Tryz.prog 4 #[] w fun e w' => e = .returned (.bool true) ∧ Below w.heap.size w w' := by
  generalize hB : w.heap.size = B
  have HB : Hid (B ≤ w.heap.size) := Nat.le_of_eq hB.symm
  clear hB
  go_enter func4, ntmps4
  go_wp2_with fail
  refine (new_b B w HB.out).mono ?_
  rintro e w0 ⟨b, mb, rfl, hT0, hb0⟩
  have T0 := Lib.hid hT0
  have B0 := Lib.hid hb0
  clear hT0 hb0
  go_wp2_with fail
  refine (ask_yes_b T0.out (Nat.le_trans HB.out B0.out.size) _ _ (by omega) (by rfl)).mono ?_
  rintro e w1 ⟨rfl, p1, hT1, hb1⟩
  have T1 : Hid (TabB B w1 b mb [(kA, (p1, ⟨1, 5, 0⟩))] 1) := hT1
  have B1 := Lib.hid (B0.out.trans hb1)
  clear hT1 hb1 T0 B0
  go_wp2_with fail
  refine (ask_no_b T1.out (Nat.le_trans HB.out B1.out.size) _ _ (by omega) (by rfl)).mono ?_
  rintro e w1' ⟨rfl, rfl⟩
  go_wp2_with fail
  refine (ask_yes_b T1.out (Nat.le_trans HB.out B1.out.size) kB _ (by omega) (by rfl)).mono ?_
  rintro e w2 ⟨rfl, p2, hT2, hb2⟩
  have T2 : Hid (TabB B w2 b mb [(kA, (p1, ⟨1, 5, 0⟩)), (kB, (p2, ⟨2, 25, 0⟩))] 2) := hT2
  have B2 := Lib.hid (B1.out.trans hb2)
  clear hT2 hb2 T1 B1
  go_wp2_with fail
  refine (ask_yes_b T2.out (Nat.le_trans HB.out B2.out.size) kA _ (by omega) (by rfl)).mono ?_
  rintro e w3 ⟨rfl, p3, hT3, hb3⟩
  have T3 : Hid (TabB B w3 b mb [(kA, (p3, ⟨3, 26, 0⟩)), (kB, (p2, ⟨2, 25, 0⟩))] 3) := hT3
  have B3 := Lib.hid (B2.out.trans hb3)
  clear hT3 hb3 T2 B2
  go_wp2_with fail
  refine (fill_b T3.out (Nat.le_trans HB.out B3.out.size) kA 1 9 false _ rfl rfl).mono ?_
  rintro e w4 ⟨rfl, hT4, hb4⟩
  have T4 := Lib.hid hT4
  have B4 := Lib.hid (B3.out.trans hb4)
  clear hT4 hb4 T3 B3
  go_wp2_with fail
  refine (inval_b T4.out (Nat.le_trans HB.out B4.out.size) kA 7 [(kA, (p3, ⟨3, 26, 7⟩)), (kB, (p2, ⟨2, 25, 0⟩))] rfl).mono ?_
  rintro e w5 ⟨rfl, hT5, hb5⟩
  have T5 := Lib.hid hT5
  have B5 := Lib.hid (B4.out.trans hb5)
  clear hT5 hb5 T4 B4
  go_wp2_with fail
  refine (fill_b T5.out (Nat.le_trans HB.out B5.out.size) kA 3 6 false [(kB, (p2, ⟨2, 25, 0⟩))] rfl rfl).mono ?_
  rintro e w6 ⟨rfl, hT6, hb6⟩
  have T6 := Lib.hid hT6
  have B6 := Lib.hid (B5.out.trans hb6)
  clear hT6 hb6 T5 B5
  go_wp2_with fail
  refine (current_calls kA b mb _ _ w6 T6.out.tab).mono ?_
  rintro e w6' ⟨rfl, rfl⟩
  rw [show tokOf (mlook kA [(kB, (p2, (⟨2, 25, 0⟩ : Ls)))]) = 0 from rfl]
  go_wp2_with fail
  refine (len_calls b mb _ _ w6 T6.out.tab).mono ?_
  rintro e w6' ⟨rfl, rfl⟩
  go_wp2_with fail
  refine (expire_b T6.out (Nat.le_trans HB.out B6.out.size) 46 (by decide) (by simp)).mono ?_
  rintro e w7 ⟨A1, sv, xs, rfl, hT7, hA1, hxs, _, hown, hb7⟩
  have hA1' : A1 = [] := List.Perm.eq_nil hA1
  have hxs' : xs = [kB] := List.Perm.eq_singleton hxs
  subst hA1' hxs'
  obtain ⟨g, cap, hsv, hcell⟩ := own_one hown
  rw [hsv]
  have T7 := Lib.hid hT7
  have B7 := Lib.hid (B6.out.trans hb7)
  have HCELL := Lib.hid hcell
  clear hT7 hb7 T6 B6 hA1 hxs hown hsv hcell
  go_wp2_with fail
  refine (ask_nil _ _ w7).mono ?_
  rintro e w7' ⟨rfl, rfl⟩
  go_wp2_with fail
  refine (inval_nil _ _ w7).mono ?_
  rintro e w7' ⟨rfl, rfl⟩
  go_wp2_with fail
  refine (len_nil w7).mono ?_
  rintro e w7' ⟨rfl, rfl⟩
  go_wp2_with fail
  refine (current_nil _ w7).mono ?_
  rintro e w7' ⟨rfl, rfl⟩
  go_wp2_with fail
  refine (fill_nil _ _ _ w7).mono ?_
  rintro e w7' ⟨rfl, rfl⟩
  go_wp2_with fail
  refine (expire_nil _ w7).mono ?_
  rintro e w8 ⟨rfl, hb8⟩
  have hglt : g < w7.heap.size := World.block_lt_of_cell? _ _ HCELL.out
  have hcell : w8.cell? ⟨g, 0, none⟩ = some (.string ⟨#[98]⟩) := (hb8.cell (p := ⟨g, 0, none⟩) hglt).trans HCELL.out
  have T8 : Hid (TabB B w8 b mb [] 3) := ⟨T7.out.tab.keep (Keep.of_below hb8 (fun _ => False)) (fun _ _ h => h), T7.out.low⟩
  have B8 := Lib.hid (B7.out.trans (hb8.mono (Nat.le_trans HB.out B7.out.size)))
  clear hb8 T7 B7 hglt HCELL
  go_wp2_with fail
  refine (len_calls b mb _ _ w8 T8.out.tab).mono ?_
  rintro e w8' ⟨rfl, rfl⟩
  go_wp2_with fail
  go_ret
  exact ⟨rfl, B8.out⟩
end Go.Proofs.YtkgmgmkbgnkdnaaGreatDoor
