/- The law LeaseFills. -/
import Derived.Test.YtgflkhifphpgpaaLawKit2
namespace Go.Proofs.Ytgflkhifphpgpaa
open Go Go.RowKit Gw
open Go.ChangeMaps (setBlock)
set_option maxHeartbeats 1000000
set_option maxRecDepth 100000

structure FilP (A : Ents) (n : Int) (tk br : List Int) (op : List Bool) (k : Nat) : Prop where
  l1 : tk.length = 4
  l2 : br.length = 4
  l3 : op.length = 4
  n_le : n ≤ k
  br0 : ∀ j, j < 4 → 0 ≤ br.getD j 0 ∧ br.getD j 0 ≤ 60
  per : ∀ j, j < 4 → (op.getD j false = false ∧ mlook (keyB j) A = none) ∨ (op.getD j false = true ∧ ∃ p bgn, mlook (keyB j) A = some (p, ⟨tk.getD j 0, bgn, br.getD j 0⟩))
def blks3 (p : Nat) (tk br : List Int) (op : List Bool) : List Blk := [(p, (cellsI tk, 3)), (p + 1, (cellsI br, 3)), (p + 2, (cellsB op, 4))]
def FilR (B : Nat) (W0 : World) (b mb p : Nat) (k : Nat) (wr : World) : Prop :=
  ∃ A n tk br op, FilP A n tk br op k ∧ TabV B W0 wr b mb A n (blks3 p tk br op)
theorem blks_set0 (p : Nat) (tk br : List Int) (op : List Bool) (j : Nat) (v : Int) : setV (blks3 p tk br op) p j (.int .i64 v) = blks3 p (tk.set j v) br op := by
  simp [setV, blks3, cellsI_set]
theorem blks_set1 (p : Nat) (tk br : List Int) (op : List Bool) (j : Nat) (v : Int) : setV (blks3 p tk br op) (p + 1) j (.int .i64 v) = blks3 p tk (br.set j v) op := by
  simp [setV, blks3, cellsI_set]
theorem blks_set2 (p : Nat) (tk br : List Int) (op : List Bool) (j : Nat) (v : Bool) : setV (blks3 p tk br op) (p + 2) j (.bool v) = blks3 p tk br (op.set j v) := by
  simp [setV, blks3, cellsB_set]

theorem fil_ask {A : Ents} {n now : Int} {tk br : List Int} {op : List Bool} {k j p : Nat} (h : FilP A n tk br op k) (hj : j < 4) :
    FilP (mput (keyB j) (p, ⟨n + 1, now, 0⟩) A) (n + 1) (tk.set j (n + 1)) (br.set j 0) (op.set j true) (k + 1) := by
  have h1 := h.l1
  have h2 := h.l2
  have h3 := h.l3
  have h4 := h.n_le
  refine ⟨by simp [h1], by simp [h2], by simp [h3], by omega, ?_, ?_⟩
  · intro i hi
    by_cases e : i = j
    · subst e; rw [getD_set_same _ _ _ (by omega)]; omega
    · rw [getD_set_ne _ _ _ _ e]; exact h.br0 i hi
  · intro i hi
    by_cases e : i = j
    · subst e
      right
      rw [getD_set_same _ _ _ (by omega), getD_set_same _ _ _ (by omega), getB_set_same _ _ _ (by omega)]
      exact ⟨rfl, p, now, mlook_mput_same _ _ _⟩
    · rw [getD_set_ne _ _ _ _ e, getD_set_ne _ _ _ _ e, getB_set_ne _ _ _ _ e, mlook_mput_ne _ (fun e1 => e (keyB_inj i j hi hj e1))]
      exact h.per i hi
theorem fil_next {A : Ents} {n : Int} {tk br : List Int} {op : List Bool} {k : Nat} (h : FilP A n tk br op k) : FilP A n tk br op (k + 1) :=
  ⟨h.l1, h.l2, h.l3, by have := h.n_le; omega, h.br0, h.per⟩
theorem fil_inv {A : Ents} {n : Int} {tk br : List Int} {op : List Bool} {k j d : Nat} (h : FilP A n tk br op k) (hj : j < 4) (hd : d < 12) :
    FilP (invA (keyB j) d A) n tk (br.set j (max (br.getD j 0) d)) op (k + 1) := by
  have h2 := h.l2
  have h4 := h.n_le
  refine ⟨h.l1, by simp [h2], h.l3, by omega, ?_, ?_⟩
  · intro i hi
    have hb := h.br0 i hi
    by_cases e : i = j
    · subst e; rw [getD_set_same _ _ _ (by omega)]; omega
    · rw [getD_set_ne _ _ _ _ e]; exact hb
  · intro i hi
    by_cases e : i = j
    · subst e
      rw [getD_set_same _ _ _ (by omega)]
      rcases h.per i hi with ⟨h5, h6⟩ | ⟨h5, p, bgn, h6⟩
      · left; unfold invA; rw [h6]; exact ⟨h5, h6⟩
      · right; unfold invA; rw [h6]; exact ⟨h5, p, bgn, mlook_mput_same _ _ _⟩
    · rw [getD_set_ne _ _ _ _ e]
      have : mlook (keyB i) (invA (keyB j) d A) = mlook (keyB i) A := by
        unfold invA
        split
        · rw [mlook_mput_ne _ (fun e1 => e (keyB_inj i j hi hj e1))]
        · rfl
      rw [this]
      exact h.per i hi
theorem fil_off {A : Ents} {n : Int} {tk br : List Int} {op : List Bool} {k j : Nat} (h : FilP A n tk br op k) (hj : j < 4) (ho : op.getD j false = false) (t p : Int) :
    fillB t p (mlook (keyB j) A) = false ∧ fitsA (keyB j) t A = false := by
  rcases h.per j hj with ⟨_, h2⟩ | ⟨h1, _⟩
  · unfold fitsA; rw [h2]; exact ⟨rfl, rfl⟩
  · rw [ho] at h1; simp at h1
theorem fil_on {A : Ents} {n : Int} {tk br : List Int} {op : List Bool} {k j : Nat} (h : FilP A n tk br op k) (hj : j < 4) (ho : op.getD j false = true) (p : Int) :
    fillB (tk.getD j 0) p (mlook (keyB j) A) = decide (br.getD j 0 ≤ p) ∧ fitsA (keyB j) (tk.getD j 0) A = true := by
  rcases h.per j hj with ⟨h1, _⟩ | ⟨_, q, bgn, h2⟩
  · rw [ho] at h1; simp at h1
  · unfold fitsA; rw [h2]
    show (decide (tk.getD j 0 = tk.getD j 0) && decide (br.getD j 0 ≤ p)) = _ ∧ decide (tk.getD j 0 = tk.getD j 0) = true
    rw [decide_eq_true rfl]; exact ⟨rfl, rfl⟩
theorem fil_other {A : Ents} {n : Int} {tk br : List Int} {op : List Bool} {k j : Nat} (h : FilP A n tk br op k) (hj : j < 4) (ho : op.getD j false = true) (t p : Int) (ht : ¬ tk.getD j 0 = t) :
    fillB t p (mlook (keyB j) A) = false ∧ fitsA (keyB j) t A = false := by
  rcases h.per j hj with ⟨h1, _⟩ | ⟨_, q, bgn, h2⟩
  · rw [ho] at h1; simp at h1
  · unfold fitsA; rw [h2]
    show (decide (tk.getD j 0 = t) && _) = false ∧ decide (tk.getD j 0 = t) = false
    rw [decide_eq_false ht]; exact ⟨rfl, rfl⟩
theorem fil_del {A : Ents} {n : Int} {tk br : List Int} {op : List Bool} {k j : Nat} (h : FilP A n tk br op k) (hj : j < 4) (hkeys : (A.map (·.1)).Nodup) : FilP (mdel (keyB j) A) n tk br (op.set j false) (k + 1) := by
  have h3 := h.l3
  have h4 := h.n_le
  refine ⟨h.l1, h.l2, by simp [h3], by omega, h.br0, ?_⟩
  intro i hi
  by_cases e : i = j
  · subst e; left; rw [getB_set_same _ _ _ (by omega)]; exact ⟨rfl, mlook_mdel_same hkeys⟩
  · rw [getB_set_ne _ _ _ _ e, mlook_mdel_ne (fun e1 => e (keyB_inj i j hi hj e1))]; exact h.per i hi

theorem fil_start {B : Nat} {W0 w : World} {b mb : Nat} (hT : TabB B w b mb [] 0) (hb : Below B W0 w) (hB : B ≤ w.heap.size) :
    FilR B W0 b mb w.heap.size 0 (((w.alloc (.cells #[.int .i64 0, .int .i64 0, .int .i64 0, .int .i64 0] 3)).alloc (.cells #[.int .i64 0, .int .i64 0, .int .i64 0, .int .i64 0] 3)).alloc (.cells #[.bool false, .bool false, .bool false, .bool false] 4)) := by
  have hK : Keep (fun _ => False) w (((w.alloc (.cells #[.int .i64 0, .int .i64 0, .int .i64 0, .int .i64 0] 3)).alloc (.cells #[.int .i64 0, .int .i64 0, .int .i64 0, .int .i64 0] 3)).alloc (.cells #[.bool false, .bool false, .bool false, .bool false] 4)) := (((Keep.refl _ _).alloc _).alloc _).alloc _
  have e1 : (w.alloc (.cells #[.int .i64 0, .int .i64 0, .int .i64 0, .int .i64 0] 3)).heap.size = w.heap.size + 1 := by simp
  have e2 : ((w.alloc (.cells #[.int .i64 0, .int .i64 0, .int .i64 0, .int .i64 0] 3)).alloc (.cells #[.int .i64 0, .int .i64 0, .int .i64 0, .int .i64 0] 3)).heap.size = w.heap.size + 2 := by simp
  refine ⟨[], 0, [0, 0, 0, 0], [0, 0, 0, 0], [false, false, false, false], ⟨rfl, rfl, rfl, by omega, ?_, ?_⟩, ⟨⟨hT.tab.keep hK (fun _ _ x => x), hT.low⟩, ?_, ?_, ?_, hb.trans (hK.below.mono hB)⟩⟩
  · intro j hj
    have : j = 0 ∨ j = 1 ∨ j = 2 ∨ j = 3 := by omega
    rcases this with rfl | rfl | rfl | rfl <;> simp
  · intro j hj
    left
    have : j = 0 ∨ j = 1 ∨ j = 2 ∨ j = 3 := by omega
    rcases this with rfl | rfl | rfl | rfl <;> simp [mlook_nil]
  · intro q hq
    simp only [blks3, List.mem_cons, List.not_mem_nil, or_false] at hq
    rcases hq with rfl | rfl | rfl
    · exact hp_alloc_old _ (hp_alloc_old _ (hp_alloc_new _ _))
    · show (((w.alloc _).alloc _).alloc _).heap[w.heap.size + 1]? = _
      rw [← e1]; exact hp_alloc_old _ (hp_alloc_new _ _)
    · show (((w.alloc _).alloc _).alloc _).heap[w.heap.size + 2]? = _
      rw [← e2]; exact hp_alloc_new _ _
  · intro q hq
    simp only [blks3, List.mem_cons, List.not_mem_nil, or_false] at hq
    rcases hq with rfl | rfl | rfl <;> simp <;> omega
  · intro q hq hf
    have := foot_lt hT.tab _ hf
    simp only [blks3, List.mem_cons, List.not_mem_nil, or_false] at hq
    rcases hq with rfl | rfl | rfl <;> simp only at this <;> omega

theorem tdiv_ok {x : Int} (h : okI x) : okI (x.tdiv 12) := by
  obtain ⟨h1, h2⟩ := h
  rcases Int.le_total 0 x with h0 | h0
  · rw [Int.tdiv_eq_ediv_of_nonneg h0]
    constructor <;> omega
  · have h3 : x = -(-x) := by omega
    rw [h3, Int.neg_tdiv, Int.tdiv_eq_ediv_of_nonneg (by omega)]
    constructor <;> omega

theorem fills_calls (B : Nat) (a : Option Addr) (g off len cap : Nat) (f : Nat → Nat → Int) (w : World) (hx : ArgN w a g off len 3 f) (_hl : len ≤ 9223372036854775807) (hB : B ≤ w.heap.size) (hg : len = 0 ∨ g < B) :
    Calls Try.prog 5 #[.slice a len cap] w fun e w' => e = .returned (.bool true) ∧ Below B w w' := by
  have HX := Lib.hid hx
  have HB := Lib.hid hB
  have HG := Lib.hid hg
  clear hx hB hg
  have hmk : ∀ w, (Instr.makeSlice 24 (.int .i64 4) (.int .i64 4)).run Try.prog w = .ok (.slice (some ⟨w.heap.size, 0, none⟩) 4 4) (w.alloc (.cells #[.int .i64 0, .int .i64 0, .int .i64 0, .int .i64 0] 3)) := fun _ => by kernel_rfl
  have hmk2 : ∀ w, (Instr.makeSlice 47 (.int .i64 4) (.int .i64 4)).run Try.prog w = .ok (.slice (some ⟨w.heap.size, 0, none⟩) 4 4) (w.alloc (.cells #[.bool false, .bool false, .bool false, .bool false] 4)) := fun _ => by kernel_rfl
  go_enter Try.func5, Try.ntmps5
  go_wp2_with (first | (go_at_call 8; refine (sane_calls _).mono ?_; rintro e w1 ⟨rfl, hb1⟩; have HB1 := Lib.hid (hb1.mono HB.out); clear hb1) | (go_at_call 9; refine (new_b B _ (Nat.le_trans HB.out HB1.out.size)).mono ?_; rintro e w2 ⟨b, mb, rfl, hT, hb2⟩; have HT := Lib.hid hT; have HB2 := Lib.hid (HB1.out.trans hb2); clear hT hb2))
  have HS := Lib.hid (fil_start HT.out HB2.out (Nat.le_trans HB.out HB2.out.size))
  generalize w2.heap.size = Bb at *
  go_loopw [8] (fun i wr => ∃ (k : Nat), i = .int .i64 k ∧ k ≤ 60 ∧ FilR B w b mb Bb k wr) (fun i _ => 60 - (intOf i).toNat)
  case atStart => exact ⟨0, rfl, by omega, HS.out⟩
  case round =>
    obtain ⟨k, rfl, hk60, A, n, tk, br, op, hP, hI⟩ := hrel
    have HP := Lib.hid hP
    have HI := Lib.hid hI
    clear HS hP hI HT HB1 HB2 hmk hmk2
    by_cases hk : k < len ∧ k < 60
    · obtain ⟨hk1, hk2⟩ := hk
      have hX := HX.out.below HI.out.below HG.out
      obtain rfl : a = some ⟨g, off, none⟩ := hX.ad.resolve_left (by omega)
      have hc0 := hX.cell k 0 hk1 (by omega)
      rw [Nat.add_zero] at hc0
      have hc1 := hX.cell k 1 hk1 (by omega)
      have hc2 := hX.cell k 2 hk1 (by omega)
      have ho0 := hX.ok k 0 hk1 (by omega)
      have ho1 := hX.ok k 1 hk1 (by omega)
      have ho2 := hX.ok k 2 hk1 (by omega)
      clear hX
      generalize f k 0 = x0 at *
      generalize f k 1 = x1 at *
      generalize f k 2 = x2 at *
      have HO0 := Lib.hid ho0
      have HO1 := Lib.hid ho1
      have HO2 := Lib.hid ho2
      clear ho0 ho1
      unfold okI at ho2
      obtain ⟨ho21, ho22⟩ := ho2
      have hBr : B ≤ wr.heap.size := Nat.le_trans HB.out HI.out.below.size
      have HBR := Lib.hid hBr
      clear hBr
      go_wp2_with (first | (go_at_call 12; first | ((with_reducible refine (pick_calls x1 4 4 _ (by omega) (by omega) (by omega) HO1.out).mono ?_); rintro e w' ⟨rfl, rfl⟩; have hj := pickN_lt x1 4 (by omega); generalize pickN x1 4 = j at hj ⊢) | ((with_reducible refine (pick_calls x2 12 12 _ (by omega) (by omega) (by omega) HO2.out).mono ?_); rintro e w' ⟨rfl, rfl⟩; have hd := pickN_lt x2 12 (by omega); generalize pickN x2 12 = d at hd ⊢) | ((with_reducible refine (pick_calls x0 4 4 _ (by omega) (by omega) (by omega) HO0.out).mono ?_); rintro e w' ⟨rfl, rfl⟩; generalize pickN x0 4 = c) ) | (go_at_call 11; refine (key_nat _ _ hj).mono ?_; rintro e w3 ⟨rfl, hb3⟩; have I3 := Lib.hid (HI.out.grow (((Below.refl _ _).alloc (Nat.le_refl _) _).trans (hb3.mono (by simp))) HBR.out); clear hb3))
      · have hn2 : n < 1000000 := by have := HP.out.n_le; omega
        refine (ask_any B (keyB j) _ b mb A n w3 I3.out.tab (Nat.le_trans HB.out I3.out.below.size) hn2).mono ?_
        rintro e w4 (⟨rfl, ha, hT4, hK4⟩ | ⟨rfl, ha, rfl⟩)
        · have I4 := Lib.hid (I3.out.op hT4 hK4 (Nat.le_trans HB.out I3.out.below.size) (fun i hi => (foot_mput i hi).elim .inl (fun e => .inr (Nat.le_of_eq e.symm))))
          obtain ⟨hc3, hf3⟩ := I4.out.cell Bb (cellsI tk) 3 (by simp [blks3]) j _ (cellsI_get _ _ (by rw [HP.out.l1]; exact hj))
          obtain ⟨hc4, hf4⟩ := I4.out.cell (Bb + 1) (cellsI br) 3 (by simp [blks3]) j _ (cellsI_get _ _ (by rw [HP.out.l2]; exact hj))
          obtain ⟨hc5, hf5⟩ := I4.out.cell (Bb + 2) (cellsB op) 4 (by simp [blks3]) j _ (cellsB_get _ _ (by rw [HP.out.l3]; exact hj))
          have HNEXT := Lib.hid (fil_ask (now := (k : Int)) (p := w3.heap.size) HP.out hj)
          have HIN : Hid (TabV B w (((w4.setCell ⟨Bb, j, none⟩ (.int .i64 (n + 1))).setCell ⟨Bb + 1, j, none⟩ (.int .i64 0)).setCell ⟨Bb + 2, j, none⟩ (.bool true)) b mb (mput (keyB j) (w3.heap.size, ⟨n + 1, k, 0⟩) A) (n + 1) (blks3 Bb (tk.set j (n + 1)) (br.set j 0) (op.set j true))) := by
            have h1 := I4.out.store Bb j (.int .i64 (n + 1)) (by simp [blks3])
            rw [blks_set0] at h1
            have h2 := h1.store (Bb + 1) j (.int .i64 0) (by simp [blks3])
            rw [blks_set1] at h2
            have h3 := h2.store (Bb + 2) j (.bool true) (by simp [blks3])
            rw [blks_set2] at h3
            exact h3
          generalize tk.getD j 0 = z3 at hc3
          generalize br.getD j 0 = z4 at hc4
          generalize op.getD j false = z5 at hc5
          clear ha hT4 hK4
          go_wp2
          go_roundw
          case rel => exact ⟨k + 1, by go_num, by omega, _, _, _, _, _, HNEXT.out, HIN.out⟩
          case measure => simp [intOf]; omega
        · clear ha
          go_wp2
          go_roundw
          case rel => exact ⟨k + 1, by go_num, by omega, _, _, _, _, _, fil_next HP.out, I3.out⟩
          case measure => simp [intOf]; omega
      · refine (inval_calls (keyB j) _ b mb A n w3 I3.out.tab.tab).mono ?_
        rintro e w4 ⟨rfl, hT4, hK4⟩
        have I4 := Lib.hid (I3.out.op ⟨hT4, fun i hi => I3.out.tab.low i (foot_inv i hi)⟩ hK4 (Nat.le_trans HB.out I3.out.below.size) (fun i hi => .inl (foot_inv i hi)))
        obtain ⟨hc4, hf4⟩ := I4.out.cell (Bb + 1) (cellsI br) 3 (by simp [blks3]) j _ (cellsI_get _ _ (by rw [HP.out.l2]; exact hj))
        have HNEXT := Lib.hid (fil_inv HP.out hj hd)
        have HIN : Hid (TabV B w (w4.setCell ⟨Bb + 1, j, none⟩ (.int .i64 (max (br.getD j 0) d))) b mb (invA (keyB j) d A) n (blks3 Bb tk (br.set j (max (br.getD j 0) d)) op)) := by
          have h1 := I4.out.store (Bb + 1) j (.int .i64 (max (br.getD j 0) d)) (by simp [blks3])
          rw [blks_set1] at h1
          exact h1
        generalize br.getD j 0 = z4 at hc4 HNEXT HIN
        clear hT4 hK4
        go_wp2
        go_roundw
        case rel => exact ⟨k + 1, by go_num, by omega, _, _, _, _, _, HNEXT.out, HIN.out⟩
        case measure => simp [intOf]; omega
      · refine (pick_calls (x2.tdiv 12) 4 4 _ (by omega) (by omega) (by omega) (tdiv_ok HO2.out)).mono ?_
        rintro e w' ⟨rfl, rfl⟩
        have hv := pickN_lt (x2.tdiv 12) 4 (by omega)
        generalize pickN (x2.tdiv 12) 4 = v at hv ⊢
        have hlt0 := lt_of_get (HI.out.vals (Bb, (cellsI tk, 3)) (by simp [blks3]))
        have hlt1 := lt_of_get (HI.out.vals (Bb + 1, (cellsI br, 3)) (by simp [blks3]))
        have hlt2 := lt_of_get (HI.out.vals (Bb + 2, (cellsB op, 4)) (by simp [blks3]))
        have hcj := (HI.out.cell Bb (cellsI tk) 3 (by simp [blks3]) j _ (cellsI_get _ _ (by rw [HP.out.l1]; exact hj))).1
        have hcv := (HI.out.cell Bb (cellsI tk) 3 (by simp [blks3]) v _ (cellsI_get _ _ (by rw [HP.out.l1]; exact hv))).1
        have hcb := (HI.out.cell (Bb + 1) (cellsI br) 3 (by simp [blks3]) j _ (cellsI_get _ _ (by rw [HP.out.l2]; exact hj))).1
        have hco := (HI.out.cell (Bb + 2) (cellsB op) 4 (by simp [blks3]) j _ (cellsB_get _ _ (by rw [HP.out.l3]; exact hj))).1
        generalize htj : tk.getD j 0 = tj at hcj
        generalize htv : tk.getD v 0 = tv at hcv
        generalize hbj : br.getD j 0 = bj at hcb
        have HTJ := Lib.hid htj
        have HTV := Lib.hid htv
        have HBJ := Lib.hid hbj
        clear htj htv hbj
        cases ho : op.getD j false with
        | false =>
          rw [ho] at hco
          have HO := Lib.hid ho
          clear ho
          obtain ⟨hfb, hff⟩ := fil_off HP.out hj HO.out tv d
          go_wp2_with fail
          go_quiet (fail)
          go_wp2_with fail
          have IX : Hid (TabV B w ((wr.alloc (.cells #[.int .i64 x0, .int .i64 x1, .int .i64 x2] 45)).drewN nq) b mb A n (blks3 Bb tk br op)) := HI.out.grow (below_drew' nq ((Below.refl _ _).alloc (Nat.le_refl _) _)) HBR.out
          generalize (wr.alloc (.cells #[.int .i64 x0, .int .i64 x1, .int .i64 x2] 45)).drewN nq = wx at *
          have hcx := (IX.out.cell Bb (cellsI tk) 3 (by simp [blks3]) v _ (cellsI_get _ _ (by rw [HP.out.l1]; exact hv))).1
          rw [HTV.out] at hcx
          have HBX : Hid (B ≤ wx.heap.size) := Nat.le_trans HB.out IX.out.below.size
          have IXD := Lib.hid (IX.out.grow ((Below.refl _ wx).drew) HBX.out)
          have hv0 : (0 : Int) ≤ (v : Int) := by omega
          have hv1 : (v : Int) < 4 := by omega
          have HFB := Lib.hid hfb
          have HFF := Lib.hid hff
          clear hfb hff
          go_region_held3 (fun w' => w'.cell? ⟨Bb, v, none⟩ = some (.int .i64 tv)) (first | go_keep | assumption) (first | (go_at_call 11; refine (key_nat _ _ hj).mono ?_; rintro e w3 ⟨rfl, hb3⟩; have I3 := Lib.hid (IXD.out.grow hb3 HBX.out); clear hb3; have hc3 := (I3.out.cell Bb (cellsI tk) 3 (by simp [blks3]) v _ (cellsI_get _ _ (by rw [HP.out.l1]; exact hv))).1; rw [HTV.out] at hc3) | (go_at_call 18; refine (fill_any B (keyB j) tv d b mb A n w3 I3.out.tab).mono ?_; rintro e w4 ⟨rfl, hT4, hK4⟩; rw [HFB.out]; rw [HFF.out] at hT4; have I4 := Lib.hid (I3.out.op hT4 hK4 (Nat.le_trans HB.out I3.out.below.size) (fun i hi => .inl hi)); clear hT4 hK4; have hc4 := (I4.out.cell Bb (cellsI tk) 3 (by simp [blks3]) v _ (cellsI_get _ _ (by rw [HP.out.l1]; exact hv))).1; rw [HTV.out] at hc4))
          obtain ⟨hco4, _⟩ := I4.out.cell (Bb + 2) (cellsB op) 4 (by simp [blks3]) j _ (cellsB_get _ _ (by rw [HP.out.l3]; exact hj))
          rw [HO.out] at hco4
          have HB4 : Hid (B ≤ w4.heap.size) := Nat.le_trans HB.out I4.out.below.size
          go_wp2_with fail
          go_quiet (fail)
          go_wp2
          go_roundw
          case rel => exact ⟨k + 1, by go_num, by omega, _, _, _, _, _, fil_next HP.out, I4.out.grow (below_drew' _ (Below.refl _ _)) HB4.out⟩
          case measure => simp [intOf]; omega
        | true =>
          rw [ho] at hco
          have HO := Lib.hid ho
          clear ho
          by_cases htt : tj = tv
          · subst htt
            obtain ⟨hfb, hff⟩ := fil_on HP.out hj HO.out (d : Int)
            rw [HTJ.out] at hff hfb
            rw [HBJ.out] at hfb
            have HTT : Hid (tk.getD v 0 = tj) := HTV.out
            rcases Int.lt_or_le (d : Int) bj with hbd | hbd
            all_goals
              have HBD := Lib.hid hbd
              first | rw [decide_eq_false (show ¬ bj ≤ (d : Int) by omega)] at hfb | rw [decide_eq_true (show bj ≤ (d : Int) by omega)] at hfb
              go_wp2_with fail
              go_quiet (fail)
              go_wp2_with fail
              have IX : Hid (TabV B w ((wr.alloc (.cells #[.int .i64 x0, .int .i64 x1, .int .i64 x2] 45)).drewN nq) b mb A n (blks3 Bb tk br op)) := HI.out.grow (below_drew' nq ((Below.refl _ _).alloc (Nat.le_refl _) _)) HBR.out
              generalize (wr.alloc (.cells #[.int .i64 x0, .int .i64 x1, .int .i64 x2] 45)).drewN nq = wx at *
              have hcx := (IX.out.cell Bb (cellsI tk) 3 (by simp [blks3]) v _ (cellsI_get _ _ (by rw [HP.out.l1]; exact hv))).1
              rw [HTV.out] at hcx
              have HBX : Hid (B ≤ wx.heap.size) := Nat.le_trans HB.out IX.out.below.size
              have IXD := Lib.hid (IX.out.grow ((Below.refl _ wx).drew) HBX.out)
              have hv0 : (0 : Int) ≤ (v : Int) := by omega
              have hv1 : (v : Int) < 4 := by omega
              have HFB := Lib.hid hfb
              have HFF := Lib.hid hff
              clear hfb hff
              go_region_held3 (fun w' => w'.cell? ⟨Bb, v, none⟩ = some (.int .i64 tj)) (first | go_keep | assumption) (first | (go_at_call 11; refine (key_nat _ _ hj).mono ?_; rintro e w3 ⟨rfl, hb3⟩; have I3 := Lib.hid (IXD.out.grow hb3 HBX.out); clear hb3; have hc3 := (I3.out.cell Bb (cellsI tk) 3 (by simp [blks3]) v _ (cellsI_get _ _ (by rw [HP.out.l1]; exact hv))).1; rw [HTV.out] at hc3) | (go_at_call 18; refine (fill_any B (keyB j) tj d b mb A n w3 I3.out.tab).mono ?_; rintro e w4 ⟨rfl, hT4, hK4⟩; rw [HFB.out]; rw [HFF.out] at hT4; have I4 := Lib.hid (I3.out.op hT4 hK4 (Nat.le_trans HB.out I3.out.below.size) (fun i hi => .inl (foot_mdel i hi))); clear hT4 hK4; have hc4 := (I4.out.cell Bb (cellsI tk) 3 (by simp [blks3]) v _ (cellsI_get _ _ (by rw [HP.out.l1]; exact hv))).1; rw [HTV.out] at hc4))
              obtain ⟨hco4, hfo4⟩ := I4.out.cell (Bb + 2) (cellsB op) 4 (by simp [blks3]) j _ (cellsB_get _ _ (by rw [HP.out.l3]; exact hj))
              rw [HO.out] at hco4
              obtain ⟨hcj4, _⟩ := I4.out.cell Bb (cellsI tk) 3 (by simp [blks3]) j _ (cellsI_get _ _ (by rw [HP.out.l1]; exact hj))
              rw [HTJ.out] at hcj4
              have HB4 : Hid (B ≤ w4.heap.size) := Nat.le_trans HB.out I4.out.below.size
              have HIN : Hid (TabV B w (w4.setCell ⟨Bb + 2, j, none⟩ (.bool false)) b mb (mdel (keyB j) A) n (blks3 Bb tk br (op.set j false))) := by
                have h1 := I4.out.store (Bb + 2) j (.bool false) (by simp [blks3])
                rw [blks_set2] at h1
                exact h1
              have HNEXT := Lib.hid (fil_del HP.out hj HI.out.tab.tab.keys)
              go_wp2_with fail
              go_quiet (fail)
              go_wp2
              go_roundw
              case rel => exact ⟨k + 1, by go_num, by omega, _, _, _, _, _, HNEXT.out, HIN.out.grow (below_drew' _ (Below.refl _ _)) (by simpa using HB4.out)⟩
              case measure => simp [intOf]; omega
          · obtain ⟨hfb, hff⟩ := fil_other HP.out hj HO.out tv (d : Int) (by rw [HTJ.out]; exact htt)
            have htt2 : (tj == tv) = false := by simpa using htt
            have HTN := Lib.hid htt
            clear htt
            go_wp2_with fail
            go_quiet (fail)
            go_wp2_with fail
            have IX : Hid (TabV B w ((wr.alloc (.cells #[.int .i64 x0, .int .i64 x1, .int .i64 x2] 45)).drewN nq) b mb A n (blks3 Bb tk br op)) := HI.out.grow (below_drew' nq ((Below.refl _ _).alloc (Nat.le_refl _) _)) HBR.out
            generalize (wr.alloc (.cells #[.int .i64 x0, .int .i64 x1, .int .i64 x2] 45)).drewN nq = wx at *
            have hcx := (IX.out.cell Bb (cellsI tk) 3 (by simp [blks3]) v _ (cellsI_get _ _ (by rw [HP.out.l1]; exact hv))).1
            rw [HTV.out] at hcx
            have HBX : Hid (B ≤ wx.heap.size) := Nat.le_trans HB.out IX.out.below.size
            have IXD := Lib.hid (IX.out.grow ((Below.refl _ wx).drew) HBX.out)
            have hv0 : (0 : Int) ≤ (v : Int) := by omega
            have hv1 : (v : Int) < 4 := by omega
            have HFB := Lib.hid hfb
            have HFF := Lib.hid hff
            clear hfb hff
            go_region_held3 (fun w' => w'.cell? ⟨Bb, v, none⟩ = some (.int .i64 tv)) (first | go_keep | assumption) (first | (go_at_call 11; refine (key_nat _ _ hj).mono ?_; rintro e w3 ⟨rfl, hb3⟩; have I3 := Lib.hid (IXD.out.grow hb3 HBX.out); clear hb3; have hc3 := (I3.out.cell Bb (cellsI tk) 3 (by simp [blks3]) v _ (cellsI_get _ _ (by rw [HP.out.l1]; exact hv))).1; rw [HTV.out] at hc3) | (go_at_call 18; refine (fill_any B (keyB j) tv d b mb A n w3 I3.out.tab).mono ?_; rintro e w4 ⟨rfl, hT4, hK4⟩; rw [HFB.out]; rw [HFF.out] at hT4; have I4 := Lib.hid (I3.out.op hT4 hK4 (Nat.le_trans HB.out I3.out.below.size) (fun i hi => .inl hi)); clear hT4 hK4; have hc4 := (I4.out.cell Bb (cellsI tk) 3 (by simp [blks3]) v _ (cellsI_get _ _ (by rw [HP.out.l1]; exact hv))).1; rw [HTV.out] at hc4))
            obtain ⟨hco4, _⟩ := I4.out.cell (Bb + 2) (cellsB op) 4 (by simp [blks3]) j _ (cellsB_get _ _ (by rw [HP.out.l3]; exact hj))
            rw [HO.out] at hco4
            obtain ⟨hcj4, _⟩ := I4.out.cell Bb (cellsI tk) 3 (by simp [blks3]) j _ (cellsI_get _ _ (by rw [HP.out.l1]; exact hj))
            rw [HTJ.out] at hcj4
            have HB4 : Hid (B ≤ w4.heap.size) := Nat.le_trans HB.out I4.out.below.size
            go_wp2_with fail
            go_quiet (fail)
            go_wp2
            go_roundw
            case rel => exact ⟨k + 1, by go_num, by omega, _, _, _, _, _, fil_next HP.out, I4.out.grow (below_drew' _ (Below.refl _ _)) HB4.out⟩
            case measure => simp [intOf]; omega
    · have h2 : len ≤ k ∨ (k < len ∧ 60 ≤ k) := by omega
      have HBW := Lib.hid HI.out.below
      rcases h2 with h2 | ⟨h2, h3⟩
      all_goals
        go_wp2
        go_ret
        exact ⟨rfl, HBW.out⟩
theorem fills_law {a : Option Addr} {g off len cap : Nat} {f : Nat → Nat → Int} (w : World) (hx : ArgN w a g off len 3 f) (hl : len ≤ maxLen) :
    Calls Try.prog 5 #[.slice a len cap] w fun e w' => e = .returned (.bool true) ∧ Below w.heap.size w w' :=
  fills_calls w.heap.size a g off len cap f w hx (by unfold maxLen at hl; omega) (Nat.le_refl _) hx.low
end Go.Proofs.Ytgflkhifphpgpaa
