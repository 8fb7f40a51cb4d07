/- The law LeaseOne. -/
import Derived.Test.YtgflkhifphpgpaaLawKit
namespace Go.Proofs.Ytgflkhifphpgpaa
open Go Go.RowKit Gw
open Go.ChangeMaps (setBlock)
set_option maxHeartbeats 1000000
set_option maxRecDepth 100000

/-- What holds after k rounds. -/
structure OneP (A : Ents) (n : Int) (bg tk : List Int) (now last : Int) (k : Nat) : Prop where
  l1 : bg.length = 4
  l2 : tk.length = 4
  n_le : n ≤ k
  last_eq : last = n
  now0 : 0 ≤ now
  now1 : now ≤ 8 * k
  tk0 : ∀ j, j < 4 → 0 ≤ tk.getD j 0 ∧ tk.getD j 0 ≤ 60
  per : ∀ j, j < 4 → (bg.getD j 0 = -1 ∧ mlook (keyB j) A = none) ∨ (0 ≤ bg.getD j 0 ∧ bg.getD j 0 ≤ now ∧ ∃ p, mlook (keyB j) A = some (p, ⟨tk.getD j 0, bg.getD j 0, 0⟩))
def OneR (B : Nat) (W0 : World) (b mb Bb Bt : Nat) (k : Nat) (now last : Int) (wr : World) : Prop :=
  ∃ A n bg tk, OneP A n bg tk now last k ∧ TabI B W0 wr b mb A n [(Bb, bg), (Bt, tk)]

theorem one_start {B : Nat} {W0 w : World} {b mb : Nat} (hT : TabB B w b mb [] 0) (hb : Below B W0 w) (hB : B ≤ w.heap.size) :
    OneR B W0 b mb w.heap.size (w.heap.size + 1) 0 0 0 ((w.alloc (.cells #[.int .i64 (-1), .int .i64 (-1), .int .i64 (-1), .int .i64 (-1)] 3)).alloc (.cells #[.int .i64 0, .int .i64 0, .int .i64 0, .int .i64 0] 3)) := by
  have hK : Keep (fun _ => False) w ((w.alloc (.cells #[.int .i64 (-1), .int .i64 (-1), .int .i64 (-1), .int .i64 (-1)] 3)).alloc (.cells #[.int .i64 0, .int .i64 0, .int .i64 0, .int .i64 0] 3)) := ((Keep.refl _ _).alloc _).alloc _
  have e1 : (w.alloc (.cells #[.int .i64 (-1), .int .i64 (-1), .int .i64 (-1), .int .i64 (-1)] 3)).heap.size = w.heap.size + 1 := by simp
  refine ⟨[], 0, [-1, -1, -1, -1], [0, 0, 0, 0], ⟨rfl, rfl, by omega, rfl, by omega, by omega, ?_, ?_⟩, ⟨⟨hT.tab.keep hK (fun _ _ x => x), hT.low⟩, ?_, ?_, ?_, ?_, hb.trans (hK.below.mono hB)⟩⟩
  · intro j hj
    have : j = 0 ∨ j = 1 ∨ j = 2 ∨ j = 3 := by omega
    rcases this with rfl | rfl | rfl | rfl <;> simp
  · intro j hj
    left
    have : j = 0 ∨ j = 1 ∨ j = 2 ∨ j = 3 := by omega
    rcases this with rfl | rfl | rfl | rfl <;> simp [mlook_nil]
  · intro q hq
    simp only [List.mem_cons, List.not_mem_nil, or_false] at hq
    rcases hq with rfl | rfl
    · exact hp_alloc_old _ (hp_alloc_new _ _)
    · show ((w.alloc _).alloc _).heap[w.heap.size + 1]? = _
      rw [← e1]; exact hp_alloc_new _ _
  · intro q hq
    simp only [List.mem_cons, List.not_mem_nil, or_false] at hq
    rcases hq with rfl | rfl <;> simp <;> omega
  · intro q hq hf
    have := foot_lt hT.tab _ hf
    simp only [List.mem_cons, List.not_mem_nil, or_false] at hq
    rcases hq with rfl | rfl
    · simp at this
    · simp only at this; omega
  · simp

theorem one_yes {A : Ents} {n : Int} {bg tk : List Int} {now last : Int} {k j d : Nat} (h : OneP A n bg tk now last k) (hj : j < 4) (ha : asksB (now + d) (mlook (keyB j) A) = true) :
    bg.getD j 0 = -1 ∨ (0 ≤ bg.getD j 0 ∧ 20 < now + d - bg.getD j 0) := by
  rcases h.per j hj with ⟨h1, _⟩ | ⟨h1, _, p, hp⟩
  · exact .inl h1
  · right
    rw [hp] at ha
    simp [asksB, oldB] at ha
    exact ⟨h1, ha.2⟩
theorem one_no {A : Ents} {n : Int} {bg tk : List Int} {now last : Int} {k j d : Nat} (h : OneP A n bg tk now last k) (hj : j < 4) (hd : d < 9) (hk : k < 60) (ha : asksB (now + d) (mlook (keyB j) A) = false) :
    0 ≤ bg.getD j 0 ∧ now + d - bg.getD j 0 ≤ 20 := by
  have ht : isTimeB (now + d) = true := by
    have := h.now0; have := h.now1
    unfold isTimeB maxInt
    rw [Bool.and_eq_true, decide_eq_true_eq, decide_eq_true_eq]
    constructor <;> omega
  rcases h.per j hj with ⟨_, h1⟩ | ⟨h1, _, p, hp⟩
  · rw [h1] at ha; simp [asksB, ht] at ha
  · rw [hp] at ha
    simp [asksB, ht, oldB] at ha
    exact ⟨h1, ha⟩
theorem one_bg {A : Ents} {n : Int} {bg tk : List Int} {now last : Int} {k j : Nat} (h : OneP A n bg tk now last k) (hj : j < 4) : -1 ≤ bg.getD j 0 ∧ bg.getD j 0 ≤ now := by
  have := h.now0
  rcases h.per j hj with ⟨h1, _⟩ | ⟨h1, h2, _⟩ <;> omega
theorem one_next_yes {A : Ents} {n : Int} {bg tk : List Int} {now last : Int} {k j d p : Nat} (h : OneP A n bg tk now last k) (hj : j < 4) (hd : d < 9) (hk : k < 60) (hn0 : 0 ≤ n) :
    OneP (mput (keyB j) (p, ⟨n + 1, now + d, 0⟩) A) (n + 1) (bg.set j (now + d)) (tk.set j (n + 1)) (now + d) (n + 1) (k + 1) := by
  have h0 := h.now0
  have h1 := h.now1
  have h2 := h.n_le
  have hb := h.l1
  have ht := h.l2
  refine ⟨by simp [hb], by simp [ht], by omega, rfl, by omega, by omega, ?_, ?_⟩
  · intro i hi
    by_cases e : i = j
    · subst e; rw [getD_set_same _ _ _ (by omega)]; omega
    · rw [getD_set_ne _ _ _ _ e]; exact h.tk0 i hi
  · intro i hi
    by_cases e : i = j
    · subst e
      right
      rw [getD_set_same _ _ _ (by omega), getD_set_same _ _ _ (by omega)]
      exact ⟨by omega, by omega, p, mlook_mput_same _ _ _⟩
    · rw [getD_set_ne _ _ _ _ e, getD_set_ne _ _ _ _ e, mlook_mput_ne _ (fun e1 => e (keyB_inj i j hi hj e1))]
      rcases h.per i hi with h3 | ⟨h3, h4, h5⟩
      · exact .inl h3
      · exact .inr ⟨h3, by omega, h5⟩
theorem one_next_no {A : Ents} {n : Int} {bg tk : List Int} {now last : Int} {k d : Nat} (h : OneP A n bg tk now last k) (hd : d < 9) : OneP A n bg tk (now + d) last (k + 1) := by
  have h0 := h.now0
  have h1 := h.now1
  have h2 := h.n_le
  refine ⟨h.l1, h.l2, by omega, h.last_eq, by omega, by omega, h.tk0, fun i hi => ?_⟩
  rcases h.per i hi with h3 | ⟨h3, h4, h5⟩
  · exact .inl h3
  · exact .inr ⟨h3, by omega, h5⟩
theorem one_fill {A : Ents} {n : Int} {bg tk : List Int} {now last : Int} {k j : Nat} (h : OneP A n bg tk now last k) (hj : j < 4) : fillB (tk.getD j 0) 0 (mlook (keyB j) A) = decide (0 ≤ bg.getD j 0) := by
  rcases h.per j hj with ⟨h1, h2⟩ | ⟨h1, _, p, hp⟩
  · rw [h1, h2]; rfl
  · rw [hp]; show (decide (tk.getD j 0 = tk.getD j 0) && decide ((0 : Int) ≤ 0)) = decide (0 ≤ bg.getD j 0); rw [decide_eq_true h1, decide_eq_true rfl]; rfl
theorem one_fill_wrong {A : Ents} {n : Int} {bg tk : List Int} {now last : Int} {k j : Nat} (h : OneP A n bg tk now last k) (hj : j < 4) : fillB (tk.getD j 0 + 1) 0 (mlook (keyB j) A) = false ∧ fitsA (keyB j) (tk.getD j 0 + 1) A = false := by
  rcases h.per j hj with ⟨h1, h2⟩ | ⟨h1, _, p, hp⟩
  · unfold fitsA; rw [h2]; exact ⟨rfl, rfl⟩
  · unfold fitsA; rw [hp]
    have : ¬ tk.getD j 0 = tk.getD j 0 + 1 := by omega
    show (decide (tk.getD j 0 = tk.getD j 0 + 1) && _) = false ∧ decide (tk.getD j 0 = tk.getD j 0 + 1) = false
    rw [decide_eq_false this]; exact ⟨rfl, rfl⟩
theorem one_next_fill {A : Ents} {n : Int} {bg tk : List Int} {now last : Int} {k j : Nat} (h : OneP A n bg tk now last k) (hj : j < 4) (hkeys : (A.map (·.1)).Nodup) (hb0 : 0 ≤ bg.getD j 0) :
    fitsA (keyB j) (tk.getD j 0) A = true ∧ OneP (mdel (keyB j) A) n (bg.set j (-1)) tk now last k := by
  have hb := h.l1
  refine ⟨?_, by simp [hb], h.l2, h.n_le, h.last_eq, h.now0, h.now1, h.tk0, ?_⟩
  · rcases h.per j hj with ⟨h1, _⟩ | ⟨_, _, p, hp⟩
    · omega
    · unfold fitsA; rw [hp]; simp
  · intro i hi
    by_cases e : i = j
    · subst e
      left
      rw [getD_set_same _ _ _ (by omega)]
      exact ⟨rfl, mlook_mdel_same hkeys⟩
    · rw [getD_set_ne _ _ _ _ e, mlook_mdel_ne (fun e1 => e (keyB_inj i j hi hj e1))]
      exact h.per i hi

theorem one_calls (B : Nat) (a : Option Addr) (g off len cap : Nat) (f : Nat → Nat → Int) (w : World) (hx : ArgN w a g off len 3 f) (_hl : len ≤ 9223372036854775807) (hB : B ≤ w.heap.size) (hg : len = 0 ∨ g < B) :
    Calls Try.prog 4 #[.slice a len cap] w fun e w' => e = .returned (.bool true) ∧ Below B w w' := by
  have HX := Lib.hid hx
  have HB := Lib.hid hB
  have HG := Lib.hid hg
  clear hx hB hg
  have hmk : ∀ w, (Instr.makeSlice 24 (.int .i64 4) (.int .i64 4)).run Try.prog w = .ok (.slice (some ⟨w.heap.size, 0, none⟩) 4 4) (w.alloc (.cells #[.int .i64 0, .int .i64 0, .int .i64 0, .int .i64 0] 3)) := fun _ => by kernel_rfl
  go_enter Try.func4, Try.ntmps4
  go_wp2_with (first | (go_at_call 8; refine (sane_calls _).mono ?_; rintro e w1 ⟨rfl, hb1⟩; have HB1 := Lib.hid (hb1.mono HB.out); clear hb1) | (go_at_call 9; refine (new_b B _ (Nat.le_trans HB.out HB1.out.size)).mono ?_; rintro e w2 ⟨b, mb, rfl, hT, hb2⟩; have HT := Lib.hid hT; have HB2 := Lib.hid (HB1.out.trans hb2); clear hT hb2))
  have HS := Lib.hid (one_start HT.out HB2.out (Nat.le_trans HB.out HB2.out.size))
  generalize w2.heap.size = Bb at *
  go_loopw [5, 6, 9] (fun now last i wr => ∃ (k : Nat) (nw la : Int), i = .int .i64 k ∧ now = .int .i64 nw ∧ last = .int .i64 la ∧ k ≤ 60 ∧ OneR B w b mb Bb (Bb + 1) k nw la wr) (fun _ _ i _ => 60 - (intOf i).toNat)
  case atStart => exact ⟨0, 0, 0, rfl, rfl, rfl, by omega, HS.out⟩
  case round =>
    obtain ⟨k, nw, la, rfl, rfl, rfl, hk60, A, n, bg, tk, hP, hI⟩ := hrel
    have HP := Lib.hid hP
    have HI := Lib.hid hI
    clear HS hP hI HT HB1 HB2 hmk
    by_cases hk : k < len ∧ k < 60
    · obtain ⟨hk1, hk2⟩ := hk
      have hX := HX.out.below HI.out.below HG.out
      obtain rfl : a = some ⟨g, off, none⟩ := hX.ad.resolve_left (by omega)
      have hc0 := hX.cell k 0 hk1 (by omega)
      rw [Nat.add_zero] at hc0
      have hc1 := hX.cell k 1 hk1 (by omega)
      have hc2 := hX.cell k 2 hk1 (by omega)
      have ho0 := hX.ok k 0 hk1 (by omega)
      have ho1 := hX.ok k 1 hk1 (by omega)
      have ho2 := hX.ok k 2 hk1 (by omega)
      clear hX
      generalize f k 0 = x0 at *
      generalize f k 1 = x1 at *
      generalize f k 2 = x2 at *
      have HO0 := Lib.hid ho0
      have HO1 := Lib.hid ho1
      have HO2 := Lib.hid ho2
      clear ho0 ho1 ho2
      have hBr : B ≤ wr.heap.size := Nat.le_trans HB.out HI.out.below.size
      have HBR := Lib.hid hBr
      clear hBr
      have hnow0 := HP.out.now0
      have hnow1 := HP.out.now1
      go_wp2_with (first | (go_at_call 12; first | ((with_reducible refine (pick_calls x1 4 4 _ (by omega) (by omega) (by omega) HO1.out).mono ?_); rintro e w' ⟨rfl, rfl⟩; have hj := pickN_lt x1 4 (by omega); generalize pickN x1 4 = j at hj ⊢; have ht1 := (HI.out.cell (Bb + 1) tk (by simp) j (by rw [HP.out.l2]; exact hj)).1; generalize htj : tk.getD j 0 = tj at ht1; have HTJ := Lib.hid htj; clear htj; have hlt1 := lt_of_get (HI.out.ints (Bb + 1, tk) (by simp)); generalize hbj : bg.getD j 0 = bj; have HBJ := Lib.hid hbj; clear hbj; have htj0 : 0 ≤ tj ∧ tj ≤ 60 := HTJ.out ▸ HP.out.tk0 j hj; obtain ⟨htj1, htj2⟩ := htj0; have hbj0 : -1 ≤ bj ∧ bj ≤ nw := HBJ.out ▸ one_bg HP.out hj; obtain ⟨hbj1, hbj2⟩ := hbj0) | ((with_reducible refine (pick_calls x2 9 9 _ (by omega) (by omega) (by omega) HO2.out).mono ?_); rintro e w' ⟨rfl, rfl⟩; have hd := pickN_lt x2 9 (by omega); generalize pickN x2 9 = d at hd ⊢) | ((with_reducible refine (pick_calls x2 4 4 _ (by omega) (by omega) (by omega) HO2.out).mono ?_); rintro e w' ⟨rfl, rfl⟩; generalize pickN x2 4 = r; rcases Nat.eq_zero_or_pos r with rfl | hr) | ((with_reducible refine (pick_calls x0 3 3 _ (by omega) (by omega) (by omega) HO0.out).mono ?_); rintro e w' ⟨rfl, rfl⟩; generalize pickN x0 3 = c)) | (go_at_call 11; refine (key_nat _ _ hj).mono ?_; rintro e w3 ⟨rfl, hb3⟩; have I3 := Lib.hid (HI.out.grow (((Below.refl _ _).alloc (Nat.le_refl _) _).trans (hb3.mono (by simp))) HBR.out); clear hb3))
      · have hn2 : n < 1000000 := by have := HP.out.n_le; omega
        refine (ask_any B (keyB j) _ b mb A n w3 I3.out.tab (Nat.le_trans HB.out I3.out.below.size) hn2).mono ?_
        rintro e w4 (⟨rfl, ha, hT4, hK4⟩ | ⟨rfl, ha, rfl⟩)
        · have I4 := Lib.hid (I3.out.op hT4 hK4 (Nat.le_trans HB.out I3.out.below.size) (fun i hi => (foot_mput i hi).elim .inl (fun e => .inr (Nat.le_of_eq e.symm))))
          have hc3 := (I4.out.cell Bb bg (by simp) j (by rw [HP.out.l1]; exact hj)).1
          have hf3 := (I4.out.cell Bb bg (by simp) j (by rw [HP.out.l1]; exact hj)).2
          have hc4 := (I4.out.cell (Bb + 1) tk (by simp) j (by rw [HP.out.l2]; exact hj)).1
          have hf4 := (I4.out.cell (Bb + 1) tk (by simp) j (by rw [HP.out.l2]; exact hj)).2
          rw [HBJ.out] at hc3
          rw [HTJ.out] at hc4
          have hcase := one_yes HP.out hj ha
          rw [HBJ.out] at hcase
          have HNEXT := Lib.hid (one_next_yes (p := w3.heap.size) HP.out hj hd hk2 I3.out.tab.tab.n0)
          have HIN : Hid (TabI B w ((w4.setCell ⟨Bb, j, none⟩ (.int .i64 (nw + d))).setCell ⟨Bb + 1, j, none⟩ (.int .i64 (n + 1))) b mb (mput (keyB j) (w3.heap.size, ⟨n + 1, nw + d, 0⟩) A) (n + 1) [(Bb, bg.set j (nw + d)), (Bb + 1, tk.set j (n + 1))]) := by
            have h1 := I4.out.store Bb j (nw + d) (by simp)
            rw [setL0] at h1
            have h2 := h1.store (Bb + 1) j (n + 1) (by simp)
            rw [setL1] at h2
            exact h2
          have hla : la ≤ n := Int.le_of_eq HP.out.last_eq
          have hn3 : 0 ≤ n := I3.out.tab.tab.n0
          clear ha hT4 hK4
          rcases hcase with hb | ⟨hb1, hb2⟩
          · have hb3 : bj < 0 := by omega
            clear hb
            go_wp2
            go_roundw
            case rel => exact ⟨k + 1, _, _, by go_num, rfl, rfl, by omega, _, _, _, _, HNEXT.out, HIN.out⟩
            case measure => simp [intOf]; omega
          · go_wp2
            go_roundw
            case rel => exact ⟨k + 1, _, _, by go_num, rfl, rfl, by omega, _, _, _, _, HNEXT.out, HIN.out⟩
            case measure => simp [intOf]; omega
        · have hc3 := (I3.out.cell Bb bg (by simp) j (by rw [HP.out.l1]; exact hj)).1
          rw [HBJ.out] at hc3
          obtain ⟨hb1, hb2⟩ := one_no HP.out hj hd hk2 ha
          rw [HBJ.out] at hb1 hb2
          clear ha
          go_wp2
          go_roundw
          case rel => exact ⟨k + 1, _, _, by go_num, rfl, rfl, by omega, _, _, _, _, one_next_no HP.out hd, I3.out⟩
          case measure => simp [intOf]; omega
      · have hn2 := one_fill_wrong HP.out hj
        rw [HTJ.out] at hn2
        refine (fill_any B (keyB j) (tj + 1) 0 b mb A n w3 I3.out.tab).mono ?_
        rintro e w4 ⟨rfl, hT4, hK4⟩
        rw [hn2.2] at hT4
        rw [hn2.1]
        have I4 := Lib.hid (I3.out.op hT4 hK4 (Nat.le_trans HB.out I3.out.below.size) (fun i hi => .inl hi))
        clear hT4 hK4 hn2
        go_wp2
        go_roundw
        case rel => exact ⟨k + 1, _, _, by go_num, rfl, rfl, by omega, _, _, _, _, one_next_no HP.out hd, I4.out⟩
        case measure => simp [intOf]; omega
      · have hn2 := one_fill HP.out hj
        rw [HTJ.out, HBJ.out] at hn2
        refine (fill_any B (keyB j) tj 0 b mb A n w3 I3.out.tab).mono ?_
        rintro e w4 ⟨rfl, hT4, hK4⟩
        rw [hn2]
        by_cases hb0 : 0 ≤ bj
        · have hf := one_next_fill HP.out hj I3.out.tab.tab.keys (by rw [HBJ.out]; exact hb0)
          rw [HTJ.out] at hf
          rw [hf.1] at hT4
          have I4 := Lib.hid (I3.out.op hT4 hK4 (Nat.le_trans HB.out I3.out.below.size) (fun i hi => .inl (foot_mdel i hi)))
          have hc3 := (I4.out.cell Bb bg (by simp) j (by rw [HP.out.l1]; exact hj)).1
          have hf3 := (I4.out.cell Bb bg (by simp) j (by rw [HP.out.l1]; exact hj)).2
          rw [HBJ.out] at hc3
          have HIN : Hid (TabI B w (w4.setCell ⟨Bb, j, none⟩ (.int .i64 (-1))) b mb (mdel (keyB j) A) n [(Bb, bg.set j (-1)), (Bb + 1, tk)]) := by
            have h1 := I4.out.store Bb j (-1) (by simp)
            rw [setL0] at h1
            exact h1
          have HNEXT := Lib.hid (one_next_no hf.2 hd)
          clear hT4 hK4 hn2 hf
          go_wp2
          go_roundw
          case rel => exact ⟨k + 1, _, _, by go_num, rfl, rfl, by omega, _, _, _, _, HNEXT.out, HIN.out⟩
          case measure => simp [intOf]; omega
        · have hfit : fitsA (keyB j) tj A = false := by
            rcases HP.out.per j hj with ⟨_, h1⟩ | ⟨h1, _⟩
            · unfold fitsA; rw [h1]
            · rw [HBJ.out] at h1; exact (hb0 h1).elim
          rw [hfit] at hT4
          have I4 := Lib.hid (I3.out.op hT4 hK4 (Nat.le_trans HB.out I3.out.below.size) (fun i hi => .inl hi))
          have hc3 := (I4.out.cell Bb bg (by simp) j (by rw [HP.out.l1]; exact hj)).1
          rw [HBJ.out] at hc3
          clear hT4 hK4 hn2 hfit
          go_wp2
          go_roundw
          case rel => exact ⟨k + 1, _, _, by go_num, rfl, rfl, by omega, _, _, _, _, one_next_no HP.out hd, I4.out⟩
          case measure => simp [intOf]; omega
    · have h2 : len ≤ k ∨ (k < len ∧ 60 ≤ k) := by omega
      have HBW := Lib.hid HI.out.below
      rcases h2 with h2 | ⟨h2, h3⟩
      all_goals
        go_wp2
        go_ret
        exact ⟨rfl, HBW.out⟩
theorem one_law {a : Option Addr} {g off len cap : Nat} {f : Nat → Nat → Int} (w : World) (hx : ArgN w a g off len 3 f) (hl : len ≤ maxLen) :
    Calls Try.prog 4 #[.slice a len cap] w fun e w' => e = .returned (.bool true) ∧ Below w.heap.size w w' :=
  one_calls w.heap.size a g off len cap f w hx (by unfold maxLen at hl; omega) (Nat.le_refl _) hx.low
end Go.Proofs.Ytgflkhifphpgpaa
