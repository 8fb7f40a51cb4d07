/- JournalRoom: the law where the group fits and the room left is less than 35. JournalRoom: the law where the group fits and the room left is 35 or more. JournalRoom: the law where the group does not fit and the room left is less than 35. JournalRoom: the law where the group does not fit and the room left is 35 or more. JournalRoom: the law. -/
import Derived.Test.YtddblcjcodejaaaDoorJm6
namespace Go.Proofs.YtddblcjcodejaaaDoor
open Go Go.RowKit Gw
set_option linter.unusedVariables false
set_option maxRecDepth 100000
attribute [local irreducible] Gw.At Gw.Nx Gw.Ops
theorem room_law11 (n : Int) (h1 : -9223372036854775808 ≤ n) (h2 : n ≤ 9223372036854775807) (v : Value) (ls : List (List UInt8)) (M : List Chunk) (hls : StrsIn M v ls) (more : Int) (m1 : -9223372036854775808 ≤ more) (m2 : more ≤ 9223372036854775807) (pa : Addr) (Tx Tg : TypeId) (zx zg : Nat × Nat)
    (hfit : (outL zero32 (fewL ls)).length ≤ sizeN n) (hsm : sizeN n < (outL zero32 (fewL ls)).length + 35) :
    DoesR Tryd.prog 3 #[.int .i64 n, v, .int .i64 more] [[(4, .cells (kTab.map u32v).toArray Tg zg)], [(0, .cells #[.iface 155 (.pointer (some pa))] Tx zx)], M] (.bool true) := by
  have hsz0 : sizeN n = 1 + pickN n 1500 := rfl
  have hsz1 := pickN_lt n 1500 (by decide)
  have hpk := pickN_lt more 100 (by decide)
  have hml : maxLen = 9223372036854775807 := rfl
  obtain ⟨ks, hks⟩ : ∃ ks, ks = fewL ls := ⟨_, rfl⟩
  have hk6 : ks.length ≤ 6 := by rw [hks]; exact few_len ls
  have hshort : ∀ r ∈ ks, r.length ≤ 65536 := by rw [hks]; exact few_short
  have hk100 : ∀ r ∈ ks, r.length ≤ 100 := by rw [hks]; exact few_100
  rw [← hks] at hfit hsm
  refine spec_enter Tryd.func3 rfl Tryd.ntmps3 rfl ?_
  intro u R
  refine at_slots (env' := [(0, _), (1, _), (2, _)]) [0, 1, 2] rfl (fun _ => rfl) ?_
  refine at_seq ?_
  refine at_region ?_
  refine op_w (p_assign (fun _ => rfl)) rfl rfl ?_
  refine ops_nil ?_
  refine nx_slots (env' := [(0, _), (1, _), (2, _)]) [0, 1, 2] rfl (fun _ => rfl) ?_
  refine nx_next ?_
  refine at_seq ?_
  refine at_region ?_
  refine op_e (w_callR (vs := []) (fun _ => rfl) Tryd.call5 (fun _ => rfl) rfl (sane_spec pa Tx Tg zx zg) (by repeat (first | exact Pull.nil _ | (apply Pull.cons; (focus (repeat (first | exact One.here _ _ | apply One.there))))))) (fun _ => rfl) rfl rfl ?_
  rintro _ _ ⟨rfl, rfl⟩
  refine op_w (p_assign (fun _ => rfl)) rfl rfl ?_
  refine ops_nil ?_
  refine nx_slots (env' := [(0, _), (1, _), (2, _), (7, _)]) [0, 1, 2, 7] rfl (fun _ => rfl) ?_
  refine nx_next ?_
  refine at_seq ?_
  refine at_region ?_
  refine op_w (p_move (fun _ => rfl)) rfl rfl ?_
  refine op_e (w_callR (vs := [_]) (fun _ => rfl) Tryd.call7 (fun _ => rfl) rfl (size_law n h1 h2) (by repeat (first | exact Pull.nil _ | (apply Pull.cons; (focus (repeat (first | exact One.here _ _ | apply One.there))))))) (fun _ => rfl) rfl rfl ?_
  rintro _ _ ⟨rfl, rfl⟩
  refine ops_eff (fun _ => rfl) (fits_of rfl) rfl (w_call (vs := [_]) (fun _ => rfl) Tryd.call6 (fun _ => rfl) rfl (new_state (sizeN n) (by omega) (by omega)) (by repeat (first | exact Pull.nil _ | (apply Pull.cons; (focus (repeat (first | exact One.here _ _ | apply One.there))))))) ?_ no_pan
  rintro _ _ ⟨_, ⟨dp, sd0, rfl, rfl, hR0⟩, rfl⟩
  have hD0 := JD.new (sizeN n) (by omega)
  have hv0 : (DiskS.new (sizeN n)).vi.length = sizeN n := by simp [DiskS.new]
  refine op_w (p_move (fun _ => rfl)) rfl rfl ?_
  refine op_w (p_extract (fun _ => rfl) rfl) rfl rfl ?_
  refine op_w (p_extract (fun _ => rfl) rfl) rfl rfl ?_
  refine op_w (p_assign (fun _ => rfl)) rfl rfl ?_
  refine op_w (p_assign (fun _ => rfl)) rfl rfl ?_
  refine ops_nil ?_
  refine nx_slots (env' := [(0, _), (1, _), (2, _), (7, _), (8, _)]) [0, 1, 2, 7, 8] rfl (fun _ => rfl) ?_
  refine nx_next ?_
  refine at_seq ?_
  refine at_region ?_
  refine op_w (p_move (fun _ => rfl)) rfl rfl ?_
  refine ops_eff (fun _ => rfl) (fits_of rfl) rfl (w_call (vs := [_]) (fun _ => rfl) Tryd.call8 (fun _ => rfl) rfl (jr_open _ _ dp sd0 pa Tx Tg zx zg hD0 hR0) (by repeat (first | exact Pull.nil _ | (apply Pull.cons; (focus (repeat (first | exact One.here _ _ | apply One.there))))))) ?_ no_pan
  rintro _ _ ⟨_, ⟨jp, sj0, rfl, hJ0, rfl⟩, rfl⟩
  refine op_w (p_move (fun _ => rfl)) rfl rfl ?_
  refine op_w (p_extract (fun _ => rfl) rfl) rfl rfl ?_
  refine op_w (p_extract (fun _ => rfl) rfl) rfl rfl ?_
  refine op_w (p_assign (fun _ => rfl)) rfl rfl ?_
  refine op_w (p_assign (fun _ => rfl)) rfl rfl ?_
  refine ops_nil ?_
  refine nx_slots (env' := [(0, _), (1, _), (2, _), (7, _), (8, _), (10, _), (11, _)]) [0, 1, 2, 7, 8, 10, 11] rfl (fun _ => rfl) ?_
  refine nx_next ?_
  refine at_seq ?_
  refine at_seq ?_
  refine at_region ?_
  refine op_w (p_move (fun _ => rfl)) rfl rfl ?_
  first | refine op_w (p_neq_nat (n := 0) (fun _ => rfl) (fun _ => rfl)) rfl rfl ?_ | refine op_w (p_neq (fun _ => rfl) (fun _ => rfl)) rfl rfl ?_
  refine ops_nil ?_
  refine nx_slots (env' := [(0, _), (1, _), (2, _), (7, _), (8, _), (10, _), (39, _)]) [0, 1, 2, 7, 8, 10, 39] rfl (fun _ => rfl) ?_
  refine nx_next ?_
  first | refine at_if (fun _ => rfl) (fun hg1 => ?_) (fun hg1 => ?_) | refine at_if_bool (fun _ => rfl) (fun hg1 => ?_) (fun hg1 => ?_)
  ·
    exfalso; first | exact hg1 rfl | (cases hg1; done) | contradiction | omega | (simp at hg1; omega) | (simp_all; done) | (simp_all; omega)
  ·
    refine at_skip ?_
    refine nx_next ?_
    refine at_seq ?_
    refine at_region ?_
    refine op_w (p_move (fun _ => rfl)) rfl rfl ?_
    refine ops_eff (fun _ => rfl) (fits_of rfl) rfl (w_call (vs := [_]) (fun _ => rfl) Tryd.call9 (fun _ => rfl) rfl (few_mem hls) (by repeat (first | exact Pull.nil _ | (apply Pull.cons; (focus (repeat (first | exact One.here _ _ | apply One.there))))))) ?_ no_pan
    rintro _ _ ⟨_, ⟨sf, hf, rfl⟩, rfl⟩
    rw [← hks] at hf
    obtain ⟨gl, cl, rfl⟩ := hf.form
    refine op_w (p_assign (fun _ => rfl)) rfl rfl ?_
    refine ops_nil ?_
    refine nx_slots (env' := [(0, _), (1, _), (2, _), (7, _), (8, _), (10, _)]) [0, 1, 2, 7, 8, 10] rfl (fun _ => rfl) ?_
    refine nx_next ?_
    refine at_seq ?_
    refine at_region ?_
    refine op_w (p_assign (fun _ => rfl)) rfl rfl ?_
    refine ops_nil ?_
    refine nx_slots (env' := [(0, _), (1, _), (2, _), (7, _), (8, _), (10, _), (12, _)]) [0, 1, 2, 7, 8, 10, 12] rfl (fun _ => rfl) ?_
    refine nx_next ?_
    refine at_seq ?_
    refine at_seq ?_
    refine at_region ?_
    refine op_w (p_assign (fun _ => rfl)) rfl rfl ?_
    refine ops_nil ?_
    refine nx_slots (env' := [(0, _), (1, _), (2, _), (7, _), (8, _), (10, _), (12, _), (13, _)]) [0, 1, 2, 7, 8, 10, 12, 13] rfl (fun _ => rfl) ?_
    refine nx_next ?_
    refine at_block ?_
    refine at_slots (env' := [(12, _), (13, _), (0, _), (1, _), (2, _), (7, _), (8, _), (10, _)]) [12, 13, 0, 1, 2, 7, 8, 10] rfl (fun _ => rfl) ?_
    refine at_loopB (e0 := [(12, _), (13, _)]) (H0 := _) (n := _) (fun m e H => ∃ (i : Nat), m = ks.length - i ∧ (i ≤ ks.length ∧ (outL zero32 (ks.take i)).length ≤ 200 * i) ∧ e = [(12, .int .i64 ((outL zero32 (ks.take i)).length : Int)), (13, .int .i64 (i : Int))] ∧ H = []) (by exact ⟨0, rfl, ⟨Nat.zero_le _, Nat.le_refl _⟩, rfl, rfl⟩) (by repeat (first | exact Pull.nil _ | (apply Pull.cons; (focus (repeat (first | exact One.here _ _ | apply One.there)))))) ?_
    rintro _ _ _ ⟨i, rfl, ⟨hi, hsum⟩, rfl, rfl⟩
    refine at_seq ?_
    refine at_seq ?_
    refine at_region ?_
    refine op_w (p_move (fun _ => rfl)) rfl rfl ?_
    refine op_w (p_move (fun _ => rfl)) rfl rfl ?_
    refine op_w (p_len_slice Tryd.underlying22 (fun _ => rfl)) rfl rfl ?_
    first | refine op_w (p_lss_nat (fun _ => rfl) (fun _ => rfl)) rfl rfl ?_ | refine op_w (p_lss (fun _ => rfl) (fun _ => rfl)) rfl rfl ?_
    refine ops_nil ?_
    refine nx_slots (env' := [(0, _), (1, _), (2, _), (7, _), (8, _), (10, _), (12, _), (13, _), (45, _)]) [0, 1, 2, 7, 8, 10, 12, 13, 45] rfl (fun _ => rfl) ?_
    refine nx_next ?_
    first | refine at_if (fun _ => rfl) (fun hlt => ?_) (fun hlt => ?_) | refine at_if_bool (fun _ => rfl) (fun hlt => ?_) (fun hlt => ?_)
    ·
      rw [List.length_map] at hlt
      refine at_skip ?_
      refine nx_next ?_
      refine at_seq ?_
      refine at_block ?_
      refine at_seq ?_
      obtain ⟨x, hx⟩ : ∃ x, ks[i]? = some x := ⟨_, List.getElem?_eq_getElem hlt⟩
      have hx100 := hk100 x (List.mem_of_getElem? hx)
      obtain ⟨gk, ck, curk, zk, hvk, rfl, hink⟩ := row_in hf (by rw [List.length_map]; omega)
      injection hvk with e1 e2 e3
      subst e1 e3
      have hcell := cellAt hink hx
      have hsn := outT_snoc zero32 ks i x hx (by omega)
      have hes := str_size (encS x)
      have hel : (encS x).length ≤ 110 := by
        have := encI_len x.length (by omega) (by omega)
        unfold encS; rw [List.length_append]; omega
      refine at_region ?_
      refine op_w (p_move (fun _ => rfl)) rfl rfl ?_
      refine op_w (p_move (fun _ => rfl)) rfl rfl ?_
      first | (refine op_w (p_indexAddr_nat0 Tryd.underlying22 Tryd.sizeOf9 (fun _ => rfl) (fun _ => rfl) ?_) rfl rfl ?_; (focus (first | omega | (rw [List.length_map]; omega)))) | (refine op_w (p_indexAddr_nat1 Tryd.underlying22 Tryd.sizeOf9 (fun _ => rfl) (fun _ => rfl) ?_) rfl rfl ?_; (focus (first | omega | (rw [List.length_map]; omega))))
      refine op_r (by repeat (first | exact Has.here _ | apply Has.there)) (p_load Tryd.isAgg9 (fun _ => rfl) (by first | exact hcell | (rw [Nat.mul_one]; exact hcell) | simpa using hcell)) rfl rfl ?_
      refine op_e (w_callR (vs := [_]) (fun _ => rfl) Tryd.call10 (fun _ => rfl) rfl (rputString_spec x (by omega)) (by repeat (first | exact Pull.nil _ | (apply Pull.cons; (focus (repeat (first | exact One.here _ _ | apply One.there))))))) (fun _ => rfl) rfl rfl ?_
      rintro _ _ ⟨rfl, rfl⟩
      refine op_w (p_move (fun _ => rfl)) rfl rfl ?_
      refine op_w (p_extract (fun _ => rfl) rfl) rfl rfl ?_
      refine op_w (p_extract (fun _ => rfl) rfl) rfl rfl ?_
      refine op_w (p_assign (fun _ => rfl)) rfl rfl ?_
      refine op_w (p_assign (fun _ => rfl)) rfl rfl ?_
      refine ops_nil ?_
      refine nx_slots (env' := [(0, _), (1, _), (2, _), (7, _), (8, _), (10, _), (12, _), (13, _), (14, _)]) [0, 1, 2, 7, 8, 10, 12, 13, 14] rfl (fun _ => rfl) ?_
      refine nx_next ?_
      refine at_region ?_
      refine op_w (p_move (fun _ => rfl)) rfl rfl ?_
      first | (refine op_w (p_add_nat (n := 33) (fun _ => rfl) (fun _ => rfl) ?_) rfl rfl ?_; (focus (omega))) | (refine op_w (p_add (fun _ => rfl) (fun _ => rfl) (IntWalk.i64_in _ ?_)) rfl rfl ?_; (focus (omega)))
      refine op_w (p_move (fun _ => rfl)) rfl rfl ?_
      refine op_w (p_len_str Tryd.underlying9 (fun _ => rfl)) rfl rfl ?_
      first | (refine op_w (p_add_nat (fun _ => rfl) (fun _ => rfl) ?_) rfl rfl ?_; (focus (omega))) | (refine op_w (p_add (fun _ => rfl) (fun _ => rfl) (IntWalk.i64_in _ ?_)) rfl rfl ?_; (focus (omega)))
      refine op_w (p_assign (fun _ => rfl)) rfl rfl ?_
      refine ops_nil ?_
      refine nx_slots (env' := [(0, _), (1, _), (2, _), (7, _), (8, _), (10, _), (12, _), (13, _)]) [0, 1, 2, 7, 8, 10, 12, 13] rfl (fun _ => rfl) ?_
      refine nx_block_normal ?_
      refine nx_next ?_
      refine at_region ?_
      refine op_w (p_move (fun _ => rfl)) rfl rfl ?_
      first | (refine op_w (p_add_nat (n := 1) (fun _ => rfl) (fun _ => rfl) ?_) rfl rfl ?_; (focus (omega))) | (refine op_w (p_add (fun _ => rfl) (fun _ => rfl) (IntWalk.i64_in _ ?_)) rfl rfl ?_; (focus (omega)))
      refine op_w (p_assign (fun _ => rfl)) rfl rfl ?_
      refine ops_nil ?_
      refine nx_slots (env' := [(0, _), (1, _), (2, _), (7, _), (8, _), (10, _), (12, _), (13, _)]) [0, 1, 2, 7, 8, 10, 12, 13] rfl (fun _ => rfl) ?_
      refine nx_slots (env' := [(12, _), (13, _), (0, _), (1, _), (2, _), (7, _), (8, _), (10, _)]) [12, 13, 0, 1, 2, 7, 8, 10] rfl (fun _ => rfl) ?_
      refine nx_againB (e' := [(12, _), (13, _)]) (m := _) (H' := _) (by exact ⟨i + 1, rfl, ⟨by omega, by rw [hsn]; omega⟩, by rw [hsn, hes], rfl⟩) ?hm_2 ?hp_2
      case hm_2 => omega
      case hp_2 => repeat (first | exact Sub.refl _ | exact Sub.nil _ | (apply Sub.cons; (focus (repeat (first | exact One.here _ _ | apply One.there)))) | refine Sub.drop _ ?_)
    ·
      rw [List.length_map] at hlt
      rw [List.take_of_length_le (show ks.length ≤ i by omega)]
      refine at_exit ?_
      refine nx_thru (by intro h; cases h) ?_
      refine nx_thru (by intro h; cases h) ?_
      refine nx_block_exit ?_
      refine nx_next ?_
      refine at_seq ?_
      refine at_region ?_
      refine op_w (p_move (fun _ => rfl)) rfl rfl ?_
      refine op_w (p_move (fun _ => rfl)) rfl rfl ?_
      refine ops_eff (fun _ => rfl) (fits_of rfl) rfl (w_call (vs := [_, _]) (fun _ => rfl) Tryd.call11 (fun _ => rfl) rfl (jd_append _ _ jp dp sj0 sf sd0 _ ks Tg zg hD0 hJ0 hR0 hf hshort (by omega)) (by repeat (first | exact Pull.nil _ | (apply Pull.cons; (focus (repeat (first | exact One.here _ _ | apply One.there))))))) ?_ no_pan
      rintro _ _ ⟨_, ⟨e1, j1, d1, sj1, sd1, rfl, hD1, hv1, ho1, hJ1, hR1, rfl⟩, rfl⟩
      have hx1 : e1 = 0 ∧ j1.rs = ks ∧ j1.sz = (outL zero32 ks).length := by
        rcases ho1 with ⟨h, _⟩ | ⟨_, h1, h2, h3⟩
        · exfalso; simp only at h; omega
        · exact ⟨h1, h2, by rw [h3]; simp⟩
      obtain ⟨rfl, hrs1, hz1⟩ := hx1
      rw [hv0] at hv1
      refine op_w (p_assign (fun _ => rfl)) rfl rfl ?_
      refine ops_nil ?_
      refine nx_slots (env' := [(0, _), (1, _), (2, _), (7, _), (8, _), (10, _), (12, _), (16, _)]) [0, 1, 2, 7, 8, 10, 12, 16] rfl (fun _ => rfl) ?_
      refine nx_next ?_
      refine at_seq ?_
      refine at_region ?_
      refine op_w (p_move (fun _ => rfl)) rfl rfl ?_
      refine op_w (p_move (fun _ => rfl)) rfl rfl ?_
      refine op_e (w_callR (vs := [_]) (fun _ => rfl) Tryd.call7 (fun _ => rfl) rfl (size_law n h1 h2) (by repeat (first | exact Pull.nil _ | (apply Pull.cons; (focus (repeat (first | exact One.here _ _ | apply One.there))))))) (fun _ => rfl) rfl rfl ?_
      rintro _ _ ⟨rfl, rfl⟩
      first | refine op_w (p_leq_nat (fun _ => rfl) (fun _ => rfl)) rfl rfl ?_ | refine op_w (p_leq (fun _ => rfl) (fun _ => rfl)) rfl rfl ?_
      refine op_w (p_assign (fun _ => rfl)) rfl rfl ?_
      refine ops_nil ?_
      refine nx_slots (env' := [(0, _), (1, _), (2, _), (7, _), (8, _), (10, _), (12, _), (16, _), (17, _)]) [0, 1, 2, 7, 8, 10, 12, 16, 17] rfl (fun _ => rfl) ?_
      refine nx_next ?_
      refine at_seq ?_
      refine at_seq ?_
      refine at_region ?_
      refine op_w (p_move (fun _ => rfl)) rfl rfl ?_
      refine op_w (p_move (fun _ => rfl)) rfl rfl ?_
      first | refine op_w (p_eql_nat (n := 0) (fun _ => rfl) (fun _ => rfl)) rfl rfl ?_ | refine op_w (p_eql (fun _ => rfl) (fun _ => rfl)) rfl rfl ?_
      refine op_w (p_neq_bool Tryd.underlying4 (fun _ => rfl) (fun _ => rfl)) rfl rfl ?_
      refine op_w (p_move (fun _ => rfl)) rfl rfl ?_
      first | refine ops_split (t := 72) (fun _ => rfl) rfl (fun hq1 => ?_) (fun hq1 => ?_) | refine ops_split_bool (t := 72) (fun _ => rfl) rfl (fun hq1 => ?_) (fun hq1 => ?_)
      ·
        exfalso; first | exact hq1 rfl | (cases hq1; done) | contradiction | omega | (simp at hq1; omega) | (simp_all; done) | (simp_all; omega)
      ·
        refine op_wg (fun _ => rfl) (p_move (fun _ => rfl)) rfl rfl ?_
        first | refine op_wg (fun _ => rfl) (p_not_dec (fun _ => rfl)) rfl rfl ?_ | refine op_wg (fun _ => rfl) (p_not (fun _ => rfl)) rfl rfl ?_
        refine op_wg (fun _ => rfl) (p_move (fun _ => rfl)) rfl rfl ?_
        first | refine ops_split (t := 75) (fun _ => rfl) rfl (fun hq2 => ?_) (fun hq2 => ?_) | refine ops_split_bool (t := 75) (fun _ => rfl) rfl (fun hq2 => ?_) (fun hq2 => ?_)
        ·
          exfalso; first | exact hq2 rfl | (cases hq2; done) | contradiction | omega | (simp at hq2; omega) | (simp_all; done) | (simp_all; omega)
        ·
          refine op_skip (fun _ => rfl) rfl ?_
          refine op_skip (fun _ => rfl) rfl ?_
          refine op_wg (fun _ => rfl) (p_pick_f (fun _ => rfl) (fun _ => rfl)) rfl rfl ?_
          refine op_w (p_pick_f (fun _ => rfl) (fun _ => rfl)) rfl rfl ?_
          refine op_w (p_move (fun _ => rfl)) rfl rfl ?_
          refine op_wg (fun _ => rfl) (p_move (fun _ => rfl)) rfl rfl ?_
          refine op_wg (fun _ => rfl) (p_move (fun _ => rfl)) rfl rfl ?_
          first | refine ops_split (t := 82) (fun _ => rfl) rfl (fun hq3 => ?_) (fun hq3 => ?_) | refine ops_split_bool (t := 82) (fun _ => rfl) rfl (fun hq3 => ?_) (fun hq3 => ?_)
          ·
            refine op_wg (fun _ => rfl) (p_move (fun _ => rfl)) rfl rfl ?_
            refine op_e (w_callR (vs := [_]) (fun _ => rfl) Tryd.call12 (fun _ => rfl) rfl (jr_room _ _ jp dp sj1 sd1 hJ1 hR1 hD1.fit) (by repeat (first | exact Pull.nil _ | (apply Pull.cons; (focus (repeat (first | exact One.here _ _ | apply One.there))))))) (fun _ => rfl) rfl rfl ?_
            rintro _ _ ⟨rfl, rfl⟩
            refine op_wg (fun _ => rfl) (p_move (fun _ => rfl)) rfl rfl ?_
            refine op_e (w_callR (vs := [_]) (fun _ => rfl) Tryd.call7 (fun _ => rfl) rfl (size_law n h1 h2) (by repeat (first | exact Pull.nil _ | (apply Pull.cons; (focus (repeat (first | exact One.here _ _ | apply One.there))))))) (fun _ => rfl) rfl rfl ?_
            rintro _ _ ⟨rfl, rfl⟩
            refine op_wg (fun _ => rfl) (p_move (fun _ => rfl)) rfl rfl ?_
            first | (refine op_wg (fun _ => rfl) (p_sub_nat (fun _ => rfl) (fun _ => rfl) ?_ ?_) rfl rfl ?_; (focus (omega)); (focus (omega))) | (refine op_wg (fun _ => rfl) (p_sub (fun _ => rfl) (fun _ => rfl) (IntWalk.i64_in _ ?_)) rfl rfl ?_; (focus (omega)))
            first | refine op_wg (fun _ => rfl) (p_neq_nat (fun _ => rfl) (fun _ => rfl)) rfl rfl ?_ | refine op_wg (fun _ => rfl) (p_neq (fun _ => rfl) (fun _ => rfl)) rfl rfl ?_
            refine op_wg (fun _ => rfl) (p_pick_t (fun _ => rfl) (fun _ => rfl)) rfl rfl ?_
            refine op_w (p_pick_f (fun _ => rfl) (fun _ => rfl)) rfl rfl ?_
            refine op_w (p_move (fun _ => rfl)) rfl rfl ?_
            first | refine ops_split (t := 92) (fun _ => rfl) rfl (fun hq4 => ?_) (fun hq4 => ?_) | refine ops_split_bool (t := 92) (fun _ => rfl) rfl (fun hq4 => ?_) (fun hq4 => ?_)
            ·
              exfalso; first | exact hq4 rfl | (cases hq4; done) | contradiction | omega | (simp at hq4; omega) | (simp_all; done) | (simp_all; omega)
            ·
              refine op_wg (fun _ => rfl) (p_move (fun _ => rfl)) rfl rfl ?_
              first | refine op_wg (fun _ => rfl) (p_not_dec (fun _ => rfl)) rfl rfl ?_ | refine op_wg (fun _ => rfl) (p_not (fun _ => rfl)) rfl rfl ?_
              refine op_wg (fun _ => rfl) (p_move (fun _ => rfl)) rfl rfl ?_
              first | refine ops_split (t := 95) (fun _ => rfl) rfl (fun hq5 => ?_) (fun hq5 => ?_) | refine ops_split_bool (t := 95) (fun _ => rfl) rfl (fun hq5 => ?_) (fun hq5 => ?_)
              ·
                exfalso; first | exact hq5 rfl | (cases hq5; done) | contradiction | omega | (simp at hq5; omega) | (simp_all; done) | (simp_all; omega)
              ·
                refine op_skip (fun _ => rfl) rfl ?_
                refine op_skip (fun _ => rfl) rfl ?_
                refine op_skip (fun _ => rfl) rfl ?_
                refine op_skip (fun _ => rfl) rfl ?_
                refine op_skip (fun _ => rfl) rfl ?_
                refine op_wg (fun _ => rfl) (p_pick_f (fun _ => rfl) (fun _ => rfl)) rfl rfl ?_
                refine op_w (p_pick_f (fun _ => rfl) (fun _ => rfl)) rfl rfl ?_
                refine ops_nil ?_
                refine nx_slots (env' := [(1, _), (2, _), (7, _), (8, _), (10, _), (102, _)]) [1, 2, 7, 8, 10, 102] rfl (fun _ => rfl) ?_
                refine nx_next ?_
                refine at_else (fun _ => rfl) ?_
                refine at_skip ?_
                refine nx_next ?_
                refine at_seq ?_
                refine at_region ?_
                refine op_w (p_move (fun _ => rfl)) rfl rfl ?_
                refine ops_eff (fun _ => rfl) (fits_of rfl) rfl (w_call (vs := [_]) (fun _ => rfl) Tryd.call13 (fun _ => rfl) rfl (jr_records _ jp dp sj1 hJ1) (by repeat (first | exact Pull.nil _ | (apply Pull.cons; (focus (repeat (first | exact One.here _ _ | apply One.there))))))) ?_ no_pan
                rintro _ _ ⟨_, ⟨sw, hw, rfl⟩, rfl⟩
                refine op_w (p_assign (fun _ => rfl)) rfl rfl ?_
                refine ops_nil ?_
                refine nx_slots (env' := [(1, _), (2, _), (7, _), (8, _), (10, _), (18, _)]) [1, 2, 7, 8, 10, 18] rfl (fun _ => rfl) ?_
                refine nx_next ?_
                refine at_seq ?_
                refine at_region ?_
                refine op_w (p_move (fun _ => rfl)) rfl rfl ?_
                refine op_e (w_buildSlice0 Tryd.underlying22 Tryd.sizeOf9) (fun _ => rfl) rfl rfl ?_
                rintro _ _ ⟨ge, rfl, rfl⟩
                refine op_w (p_move (fun _ => rfl)) rfl rfl ?_
                refine op_e (w_append_row (by_ := 16) Tryd.underlying22 (rfl : Tryd.prog.info? 9 = some Tryd.t9) rfl rfl rfl rfl (fun _ => rfl) (row_new _ ge [] 0 rfl (Nat.zero_le _)) (fun _ => rfl) (hf) (by repeat (first | exact One.here _ _ | apply One.there)) (by repeat (first | exact One.here _ _ | apply One.there)) (by simp [Value.oneCell', strV]) (by (simp only [List.length_map, List.length_nil]; omega)) (by (simp only [List.length_map, List.length_nil]; omega))) (fun _ => rfl) rfl rfl ?_
                rintro _ _ ⟨sp, hrp, rfl⟩
                obtain ⟨gp, cp, rfl⟩ := hrp.form
                refine op_w (p_move (fun _ => rfl)) rfl rfl ?_
                refine op_e (w_callR (vs := [_, _]) (fun _ => rfl) Tryd.call14 (fun _ => rfl) rfl (pick_spec more 100 (by decide) (by decide) m1 m2) (by repeat (first | exact Pull.nil _ | (apply Pull.cons; (focus (repeat (first | exact One.here _ _ | apply One.there))))))) (fun _ => rfl) rfl rfl ?_
                rintro _ _ ⟨rfl, rfl⟩
                first | (refine op_w (p_add_nat (m := 65537) (fun _ => rfl) (fun _ => rfl) ?_) rfl rfl ?_; (focus (omega))) | (refine op_w (p_add (fun _ => rfl) (fun _ => rfl) (IntWalk.i64_in _ ?_)) rfl rfl ?_; (focus (omega)))
                refine op_e (w_makeSlice (by_ := 1) Tryd.underlying38 (rfl : Tryd.prog.info? 5 = some Tryd.t5) rfl rfl rfl rfl (fun _ => rfl) (fun _ => rfl) ?_ ?_ ?_) (fun _ => rfl) rfl rfl ?_
                (focus (omega))
                (focus (omega))
                (focus (omega))
                rintro _ _ ⟨gm, rfl, rfl⟩
                refine op_r (by repeat (first | exact Has.here _ | apply Has.there)) (p_conv_bytes_str Tryd.underlying38 Tryd.underlying5 Tryd.underlying9 (fun _ => rfl) (by exact (show (_ = List.map u8v (List.replicate (65537 + pickN more 100) 0)) ∧ _ from ⟨by simp [u8v], by simp⟩))) rfl rfl ?_
                refine op_e (w_buildSlice (vs := [_]) (cs := [_]) Tryd.underlying22 Tryd.sizeOf9 Tryd.zeroValue9 (fun _ => rfl) rfl rfl rfl rfl rfl) (fun _ => rfl) rfl rfl ?_
                rintro _ _ ⟨gb, rfl, rfl⟩
                refine op_e (w_append_row (by_ := 16) Tryd.underlying22 (rfl : Tryd.prog.info? 9 = some Tryd.t9) rfl rfl rfl rfl (fun _ => rfl) (hrp) (fun _ => rfl) (row_new _ gb [strV (List.replicate (65537 + pickN more 100) 0)] 1 rfl (by decide)) (by repeat (first | exact One.here _ _ | apply One.there)) (by repeat (first | exact One.here _ _ | apply One.there)) (by simp [Value.oneCell', strV]) (by (simp only [List.length_map, List.length_append, List.length_cons, List.length_nil]; omega)) (by (simp only [List.length_map, List.length_append, List.length_cons, List.length_nil]; omega))) (fun _ => rfl) rfl rfl ?_
                rintro _ _ ⟨sq, hrq, rfl⟩
                have hq9 : [] ++ List.map strV ks ++ [strV (List.replicate (65537 + pickN more 100) 0)] = (ks ++ [List.replicate (65537 + pickN more 100) 0]).map strV := by simp
                rw [hq9] at hrq
                obtain ⟨gq, cq, rfl⟩ := hrq.form
                refine op_e (w_callR (vs := [_, _]) (fun _ => rfl) Tryd.call11 (fun _ => rfl) rfl (jr_long _ jp dp sj1 sq _ (ks ++ [List.replicate (65537 + pickN more 100) 0]) hJ1 hD1.br hrq (by simp; omega) (by simp [isLong]; right; omega)) (by repeat (first | exact Pull.nil _ | (apply Pull.cons; (focus (repeat (first | exact One.here _ _ | apply One.there))))))) (fun _ => rfl) rfl rfl ?_
                rintro _ _ ⟨rfl, rfl⟩
                refine op_w (p_assign (fun _ => rfl)) rfl rfl ?_
                refine ops_nil ?_
                refine nx_slots (env' := [(1, _), (7, _), (8, _), (10, _), (18, _), (19, _)]) [1, 7, 8, 10, 18, 19] rfl (fun _ => rfl) ?_
                refine nx_next ?_
                refine at_seq ?_
                refine at_region ?_
                refine op_w (p_move (fun _ => rfl)) rfl rfl ?_
                refine op_e (w_callR (vs := [_, _]) (fun _ => rfl) Tryd.call11 (fun _ => rfl) rfl (jr_none _ _ jp dp sj1 sd1 hJ1 hR1 hD1.br hD1.fit) (by repeat (first | exact Pull.nil _ | (apply Pull.cons; (focus (repeat (first | exact One.here _ _ | apply One.there))))))) (fun _ => rfl) rfl rfl ?_
                rintro _ _ ⟨rfl, rfl⟩
                refine op_w (p_assign (fun _ => rfl)) rfl rfl ?_
                refine ops_nil ?_
                refine nx_slots (env' := [(1, _), (7, _), (8, _), (10, _), (18, _), (19, _), (20, _)]) [1, 7, 8, 10, 18, 19, 20] rfl (fun _ => rfl) ?_
                refine nx_next ?_
                refine at_seq ?_
                refine at_region ?_
                refine op_w (p_move (fun _ => rfl)) rfl rfl ?_
                refine ops_eff (fun _ => rfl) (fits_of rfl) rfl (w_call (vs := [_, _]) (fun _ => rfl) Tryd.call15 (fun _ => rfl) rfl (disk_cut d1 dp sd1 hR1 hD1.off 0 (by decide)) (by repeat (first | exact Pull.nil _ | (apply Pull.cons; (focus (repeat (first | exact One.here _ _ | apply One.there))))))) ?_ no_pan
                rintro _ _ ⟨_, ⟨sc, rfl, rfl, hRc⟩, rfl⟩
                obtain ⟨dc, hdc⟩ : ∃ dc, dc = (d1.cut 0).2 := ⟨_, rfl⟩
                have hcv : dc.vi = d1.vi := by rw [hdc]; unfold DiskS.cut; rw [hD1.off]; rfl
                have hco : dc.off = true := by rw [hdc]; unfold DiskS.cut; rw [hD1.off]; rfl
                have hcp : dc.pend = [] := by rw [hdc]; unfold DiskS.cut; rw [hD1.off]; exact hD1.pend
                rw [← hdc] at hRc
                have hcl : dc.vi.length = d1.vi.length := by rw [hcv]
                have hfit1 := hD1.fit
                have hxl := outX_len j1.h
                refine ops_nil ?_
                refine nx_slots (env' := [(1, _), (7, _), (10, _), (18, _), (19, _), (20, _)]) [1, 7, 10, 18, 19, 20] rfl (fun _ => rfl) ?_
                refine nx_next ?_
                refine at_seq ?_
                refine at_region ?_
                refine op_w (p_move (fun _ => rfl)) rfl rfl ?_
                refine op_e (w_buildSlice (vs := [_]) (cs := [_]) Tryd.underlying22 Tryd.sizeOf9 Tryd.zeroValue9 (fun _ => rfl) rfl rfl rfl rfl rfl) (fun _ => rfl) rfl rfl ?_
                rintro _ _ ⟨gx, rfl, rfl⟩
                refine ops_eff (fun _ => rfl) (fits_of rfl) rfl (w_call (vs := [_, _]) (fun _ => rfl) Tryd.call11 (fun _ => rfl) rfl (jr_full j1 dc jp dp sj1 _ sc _ [[120]] Tg zg hJ1 hRc (row_new _ gx ([[120]].map strV) 1 rfl (by decide)) hD1.br (by omega) (by rw [hcp]; simp) (by decide) (by decide) (by rw [hxl]; omega)) (by repeat (first | exact Pull.nil _ | (apply Pull.cons; (focus (repeat (first | exact One.here _ _ | apply One.there))))))) ?_ no_pan
                rintro _ _ ⟨_, ⟨sj2, sd2, rfl, hJ2, hR2, rfl⟩, rfl⟩
                refine op_w (p_assign (fun _ => rfl)) rfl rfl ?_
                refine ops_nil ?_
                refine nx_slots (env' := [(1, _), (7, _), (10, _), (18, _), (19, _), (20, _), (21, _)]) [1, 7, 10, 18, 19, 20, 21] rfl (fun _ => rfl) ?_
                refine nx_next ?_
                refine at_seq ?_
                refine at_region ?_
                refine op_w (p_move (fun _ => rfl)) rfl rfl ?_
                refine op_e (w_callR (vs := [_]) (fun _ => rfl) Tryd.call12 (fun _ => rfl) rfl (jr_room j1 dc jp dp sj2 sd2 hJ2 hR2 (by omega)) (by repeat (first | exact Pull.nil _ | (apply Pull.cons; (focus (repeat (first | exact One.here _ _ | apply One.there))))))) (fun _ => rfl) rfl rfl ?_
                rintro _ _ ⟨rfl, rfl⟩
                first | refine op_w (p_lss_nat (n := 35) (fun _ => rfl) (fun _ => rfl)) rfl rfl ?_ | refine op_w (p_lss (fun _ => rfl) (fun _ => rfl)) rfl rfl ?_
                refine op_w (p_assign (fun _ => rfl)) rfl rfl ?_
                refine ops_nil ?_
                refine nx_slots (env' := [(1, _), (7, _), (10, _), (18, _), (19, _), (20, _), (21, _), (22, _)]) [1, 7, 10, 18, 19, 20, 21, 22] rfl (fun _ => rfl) ?_
                refine nx_next ?_
                refine at_seq ?_
                refine at_region ?_
                refine op_w (p_move (fun _ => rfl)) rfl rfl ?_
                refine op_e (w_callR (vs := [_, _]) (fun _ => rfl) Tryd.call11 (fun _ => rfl) rfl (jr_none j1 dc jp dp sj2 sd2 hJ2 hR2 hD1.br (by omega)) (by repeat (first | exact Pull.nil _ | (apply Pull.cons; (focus (repeat (first | exact One.here _ _ | apply One.there))))))) (fun _ => rfl) rfl rfl ?_
                rintro _ _ ⟨rfl, rfl⟩
                refine op_w (p_assign (fun _ => rfl)) rfl rfl ?_
                refine ops_nil ?_
                refine nx_slots (env' := [(1, _), (7, _), (10, _), (18, _), (19, _), (20, _), (21, _), (22, _), (23, _)]) [1, 7, 10, 18, 19, 20, 21, 22, 23] rfl (fun _ => rfl) ?_
                refine nx_next ?_
                refine at_seq ?_
                refine at_region ?_
                refine op_w (p_assign (fun _ => rfl)) rfl rfl ?_
                refine ops_nil ?_
                refine nx_slots (env' := [(1, _), (7, _), (10, _), (18, _), (19, _), (20, _), (21, _), (22, _), (23, _), (24, _)]) [1, 7, 10, 18, 19, 20, 21, 22, 23, 24] rfl (fun _ => rfl) ?_
                refine nx_next ?_
                refine at_seq ?_
                refine at_region ?_
                refine op_w (p_move (fun _ => rfl)) rfl rfl ?_
                refine op_w (p_move (fun _ => rfl)) rfl rfl ?_
                first | refine ops_split (t := 130) (fun _ => rfl) rfl (fun hb1 => ?_) (fun hb1 => ?_) | refine ops_split_bool (t := 130) (fun _ => rfl) rfl (fun hb1 => ?_) (fun hb1 => ?_)
                ·
                  refine op_wg (fun _ => rfl) (p_move (fun _ => rfl)) rfl rfl ?_
                  first | refine op_wg (fun _ => rfl) (p_eql_nat (n := 231) (fun _ => rfl) (fun _ => rfl)) rfl rfl ?_ | refine op_wg (fun _ => rfl) (p_eql (fun _ => rfl) (fun _ => rfl)) rfl rfl ?_
                  refine op_w (p_pick_t (fun _ => rfl) (fun _ => rfl)) rfl rfl ?_
                  refine op_w (p_move (fun _ => rfl)) rfl rfl ?_
                  first | refine ops_split (t := 134) (fun _ => rfl) rfl (fun hb2 => ?_) (fun hb2 => ?_) | refine ops_split_bool (t := 134) (fun _ => rfl) rfl (fun hb2 => ?_) (fun hb2 => ?_)
                  ·
                    refine op_wg (fun _ => rfl) (p_move (fun _ => rfl)) rfl rfl ?_
                    first | refine op_wg (fun _ => rfl) (p_eql_nat (n := 0) (fun _ => rfl) (fun _ => rfl)) rfl rfl ?_ | refine op_wg (fun _ => rfl) (p_eql (fun _ => rfl) (fun _ => rfl)) rfl rfl ?_
                    refine op_w (p_pick_t (fun _ => rfl) (fun _ => rfl)) rfl rfl ?_
                    refine op_w (p_move (fun _ => rfl)) rfl rfl ?_
                    first | refine ops_split (t := 138) (fun _ => rfl) rfl (fun hb3 => ?_) (fun hb3 => ?_) | refine ops_split_bool (t := 138) (fun _ => rfl) rfl (fun hb3 => ?_) (fun hb3 => ?_)
                    ·
                      refine op_skip (fun _ => rfl) rfl ?_
                      refine op_skip (fun _ => rfl) rfl ?_
                      refine op_skip (fun _ => rfl) rfl ?_
                      refine op_skip (fun _ => rfl) rfl ?_
                      refine op_skip (fun _ => rfl) rfl ?_
                      refine op_skip (fun _ => rfl) rfl ?_
                      refine op_skip (fun _ => rfl) rfl ?_
                      refine op_skip (fun _ => rfl) rfl ?_
                      refine op_skip (fun _ => rfl) rfl ?_
                      refine op_skip (fun _ => rfl) rfl ?_
                      refine op_w (p_pick_t (fun _ => rfl) (fun _ => rfl)) rfl rfl ?_
                      refine op_w (p_assign (fun _ => rfl)) rfl rfl ?_
                      refine ops_nil ?_
                      refine nx_slots (env' := [(1, _), (7, _), (10, _), (18, _), (19, _), (20, _), (24, _), (25, _)]) [1, 7, 10, 18, 19, 20, 24, 25] rfl (fun _ => rfl) ?_
                      refine nx_next ?_
                      refine at_seq ?_
                      refine at_region ?_
                      refine op_w (p_move (fun _ => rfl)) rfl rfl ?_
                      refine op_w (p_move (fun _ => rfl)) rfl rfl ?_
                      refine ops_split_bool (t := 151) (fun _ => rfl) rfl (fun hc1 => ?_) (fun hc1 => ?_)
                      ·
                        refine op_wg (fun _ => rfl) (p_move (fun _ => rfl)) rfl rfl ?_
                        first | refine op_wg (fun _ => rfl) (p_eql_nat (n := 230) (fun _ => rfl) (fun _ => rfl)) rfl rfl ?_ | refine op_wg (fun _ => rfl) (p_eql (fun _ => rfl) (fun _ => rfl)) rfl rfl ?_
                        refine op_w (p_pick_t (fun _ => rfl) (fun _ => rfl)) rfl rfl ?_
                        refine op_w (p_move (fun _ => rfl)) rfl rfl ?_
                        first | refine ops_split (t := 155) (fun _ => rfl) rfl (fun hc2 => ?_) (fun hc2 => ?_) | refine ops_split_bool (t := 155) (fun _ => rfl) rfl (fun hc2 => ?_) (fun hc2 => ?_)
                        ·
                          refine op_wg (fun _ => rfl) (p_move (fun _ => rfl)) rfl rfl ?_
                          first | refine op_wg (fun _ => rfl) (p_eql_nat (n := 0) (fun _ => rfl) (fun _ => rfl)) rfl rfl ?_ | refine op_wg (fun _ => rfl) (p_eql (fun _ => rfl) (fun _ => rfl)) rfl rfl ?_
                          refine op_w (p_pick_t (fun _ => rfl) (fun _ => rfl)) rfl rfl ?_
                          refine op_w (p_move (fun _ => rfl)) rfl rfl ?_
                          first | refine ops_split (t := 159) (fun _ => rfl) rfl (fun hc3 => ?_) (fun hc3 => ?_) | refine ops_split_bool (t := 159) (fun _ => rfl) rfl (fun hc3 => ?_) (fun hc3 => ?_)
                          ·
                            refine op_wg (fun _ => rfl) (p_move (fun _ => rfl)) rfl rfl ?_
                            refine op_w (p_pick_t (fun _ => rfl) (fun _ => rfl)) rfl rfl ?_
                            refine op_w (p_move (fun _ => rfl)) rfl rfl ?_
                            refine op_wg (fun _ => rfl) (p_move (fun _ => rfl)) rfl rfl ?_
                            refine ops_eff (fun _ => rfl) (fits_of rfl) rfl (w_call (vs := [_]) (fun _ => rfl) Tryd.call13 (fun _ => rfl) rfl (jr_records _ jp dp sj2 hJ2) (by repeat (first | exact Pull.nil _ | (apply Pull.cons; (focus (repeat (first | exact One.here _ _ | apply One.there))))))) ?_ no_pan
                            rintro _ _ ⟨_, ⟨sr3, hr3, rfl⟩, rfl⟩
                            refine op_wg (fun _ => rfl) (p_move (fun _ => rfl)) rfl rfl ?_
                            refine op_e (w_callR (vs := [_, _]) (fun _ => rfl) Tryd.call16 (fun _ => rfl) rfl (same_rows hr3 hw hJ2.2.1) (by repeat (first | exact Pull.nil _ | (apply Pull.cons; (focus (repeat (first | exact One.here _ _ | apply One.there))))))) (fun _ => rfl) rfl rfl ?_
                            rintro _ _ ⟨rfl, rfl⟩
                            refine op_w (p_pick_t (fun _ => rfl) (fun _ => rfl)) rfl rfl ?_
                            refine op_w (p_move (fun _ => rfl)) rfl rfl ?_
                            first | refine ops_split (t := 168) (fun _ => rfl) rfl (fun hc5 => ?_) (fun hc5 => ?_) | refine ops_split_bool (t := 168) (fun _ => rfl) rfl (fun hc5 => ?_) (fun hc5 => ?_)
                            ·
                              refine op_wg (fun _ => rfl) (p_move (fun _ => rfl)) rfl rfl ?_
                              refine op_wg (fun _ => rfl) (p_move (fun _ => rfl)) rfl rfl ?_
                              refine op_e (w_callR (vs := [_, _]) (fun _ => rfl) Tryd.call11 (fun _ => rfl) rfl (append_nilj _) (by repeat (first | exact Pull.nil _ | (apply Pull.cons; (focus (repeat (first | exact One.here _ _ | apply One.there))))))) (fun _ => rfl) rfl rfl ?_
                              rintro _ _ ⟨rfl, rfl⟩
                              first | refine op_wg (fun _ => rfl) (p_eql_nat (n := 1) (fun _ => rfl) (fun _ => rfl)) rfl rfl ?_ | refine op_wg (fun _ => rfl) (p_eql (fun _ => rfl) (fun _ => rfl)) rfl rfl ?_
                              refine op_w (p_pick_t (fun _ => rfl) (fun _ => rfl)) rfl rfl ?_
                              refine op_w (p_move (fun _ => rfl)) rfl rfl ?_
                              first | refine ops_split (t := 174) (fun _ => rfl) rfl (fun hc6 => ?_) (fun hc6 => ?_) | refine ops_split_bool (t := 174) (fun _ => rfl) rfl (fun hc6 => ?_) (fun hc6 => ?_)
                              ·
                                refine op_wg (fun _ => rfl) (p_move (fun _ => rfl)) rfl rfl ?_
                                refine op_e (w_callR (vs := [_]) (fun _ => rfl) Tryd.call13 (fun _ => rfl) rfl (records_nil) (by repeat (first | exact Pull.nil _ | (apply Pull.cons; (focus (repeat (first | exact One.here _ _ | apply One.there))))))) (fun _ => rfl) rfl rfl ?_
                                rintro _ _ ⟨rfl, rfl⟩
                                refine op_wg (fun _ => rfl) (p_len_slice Tryd.underlying22 (fun _ => rfl)) rfl rfl ?_
                                first | refine op_wg (fun _ => rfl) (p_eql_nat (n := 0) (fun _ => rfl) (fun _ => rfl)) rfl rfl ?_ | refine op_wg (fun _ => rfl) (p_eql (fun _ => rfl) (fun _ => rfl)) rfl rfl ?_
                                refine op_w (p_pick_t (fun _ => rfl) (fun _ => rfl)) rfl rfl ?_
                                refine op_w (p_move (fun _ => rfl)) rfl rfl ?_
                                first | refine ops_split (t := 180) (fun _ => rfl) rfl (fun hc7 => ?_) (fun hc7 => ?_) | refine ops_split_bool (t := 180) (fun _ => rfl) rfl (fun hc7 => ?_) (fun hc7 => ?_)
                                ·
                                  refine op_wg (fun _ => rfl) (p_move (fun _ => rfl)) rfl rfl ?_
                                  refine op_e (w_callR (vs := [_]) (fun _ => rfl) Tryd.call12 (fun _ => rfl) rfl (room_nil) (by repeat (first | exact Pull.nil _ | (apply Pull.cons; (focus (repeat (first | exact One.here _ _ | apply One.there))))))) (fun _ => rfl) rfl rfl ?_
                                  rintro _ _ ⟨rfl, rfl⟩
                                  first | refine op_wg (fun _ => rfl) (p_eql_nat (n := 0) (fun _ => rfl) (fun _ => rfl)) rfl rfl ?_ | refine op_wg (fun _ => rfl) (p_eql (fun _ => rfl) (fun _ => rfl)) rfl rfl ?_
                                  refine op_w (p_pick_t (fun _ => rfl) (fun _ => rfl)) rfl rfl ?_
                                  refine op_w (p_assign (fun _ => rfl)) rfl rfl ?_
                                  refine ops_nil ?_
                                  refine nx_slots (env' := [(6, _)]) [6] rfl (fun _ => rfl) ?_
                                  refine nx_next ?_
                                  refine at_ret ?_
                                  refine nx_end1 (H' := _) rfl Tryd.results3 (fun _ => rfl) (by exact ⟨rfl, rfl⟩) ?hp_3
                                  case hp_3 => repeat (first | exact Sub.refl _ | exact Sub.nil _ | (apply Sub.cons; (focus (repeat (first | exact One.here _ _ | apply One.there)))) | refine Sub.drop _ ?_)
                                ·
                                  exfalso; first | exact hc7 rfl | (cases hc7; done) | contradiction | omega | (simp at hc7; omega) | (simp_all; done) | (simp_all; omega)
                              ·
                                exfalso; first | exact hc6 rfl | (cases hc6; done) | contradiction | omega | (simp at hc6; omega) | (simp_all; done) | (simp_all; omega)
                            ·
                              exfalso; first | exact hc5 rfl | (cases hc5; done) | contradiction | omega | (simp at hc5; omega) | (simp_all; done) | (simp_all; omega)
                          ·
                            exfalso; first | exact hc3 rfl | (cases hc3; done) | contradiction | omega | (simp at hc3; omega) | (simp_all; done) | (simp_all; omega)
                        ·
                          exfalso; first | exact hc2 rfl | (cases hc2; done) | contradiction | omega | (simp at hc2; omega) | (simp_all; done) | (simp_all; omega)
                      ·
                        exfalso; first | exact hc1 rfl | (cases hc1; done) | contradiction | omega | (simp at hc1; omega) | (simp_all; done) | (simp_all; omega)
                    ·
                      exfalso; first | exact hb3 rfl | (cases hb3; done) | contradiction | omega | (simp at hb3; omega) | (simp_all; done) | (simp_all; omega)
                  ·
                    exfalso; first | exact hb2 rfl | (cases hb2; done) | contradiction | omega | (simp at hb2; omega) | (simp_all; done) | (simp_all; omega)
                ·
                  exfalso; first | exact hb1 rfl | (cases hb1; done) | contradiction | omega | (simp at hb1; omega) | (simp_all; done) | (simp_all; omega)
          ·
            exfalso; first | exact hq3 rfl | (cases hq3; done) | contradiction | omega | (simp at hq3; omega) | (simp_all; done) | (simp_all; omega)

theorem room_law10 (n : Int) (h1 : -9223372036854775808 ≤ n) (h2 : n ≤ 9223372036854775807) (v : Value) (ls : List (List UInt8)) (M : List Chunk) (hls : StrsIn M v ls) (more : Int) (m1 : -9223372036854775808 ≤ more) (m2 : more ≤ 9223372036854775807) (pa : Addr) (Tx Tg : TypeId) (zx zg : Nat × Nat)
    (hfit : (outL zero32 (fewL ls)).length ≤ sizeN n) (hsm : ¬ sizeN n < (outL zero32 (fewL ls)).length + 35) :
    DoesR Tryd.prog 3 #[.int .i64 n, v, .int .i64 more] [[(4, .cells (kTab.map u32v).toArray Tg zg)], [(0, .cells #[.iface 155 (.pointer (some pa))] Tx zx)], M] (.bool true) := by
  have hsz0 : sizeN n = 1 + pickN n 1500 := rfl
  have hsz1 := pickN_lt n 1500 (by decide)
  have hpk := pickN_lt more 100 (by decide)
  have hml : maxLen = 9223372036854775807 := rfl
  obtain ⟨ks, hks⟩ : ∃ ks, ks = fewL ls := ⟨_, rfl⟩
  have hk6 : ks.length ≤ 6 := by rw [hks]; exact few_len ls
  have hshort : ∀ r ∈ ks, r.length ≤ 65536 := by rw [hks]; exact few_short
  have hk100 : ∀ r ∈ ks, r.length ≤ 100 := by rw [hks]; exact few_100
  rw [← hks] at hfit hsm
  refine spec_enter Tryd.func3 rfl Tryd.ntmps3 rfl ?_
  intro u R
  refine at_slots (env' := [(0, _), (1, _), (2, _)]) [0, 1, 2] rfl (fun _ => rfl) ?_
  refine at_seq ?_
  refine at_region ?_
  refine op_w (p_assign (fun _ => rfl)) rfl rfl ?_
  refine ops_nil ?_
  refine nx_slots (env' := [(0, _), (1, _), (2, _)]) [0, 1, 2] rfl (fun _ => rfl) ?_
  refine nx_next ?_
  refine at_seq ?_
  refine at_region ?_
  refine op_e (w_callR (vs := []) (fun _ => rfl) Tryd.call5 (fun _ => rfl) rfl (sane_spec pa Tx Tg zx zg) (by repeat (first | exact Pull.nil _ | (apply Pull.cons; (focus (repeat (first | exact One.here _ _ | apply One.there))))))) (fun _ => rfl) rfl rfl ?_
  rintro _ _ ⟨rfl, rfl⟩
  refine op_w (p_assign (fun _ => rfl)) rfl rfl ?_
  refine ops_nil ?_
  refine nx_slots (env' := [(0, _), (1, _), (2, _), (7, _)]) [0, 1, 2, 7] rfl (fun _ => rfl) ?_
  refine nx_next ?_
  refine at_seq ?_
  refine at_region ?_
  refine op_w (p_move (fun _ => rfl)) rfl rfl ?_
  refine op_e (w_callR (vs := [_]) (fun _ => rfl) Tryd.call7 (fun _ => rfl) rfl (size_law n h1 h2) (by repeat (first | exact Pull.nil _ | (apply Pull.cons; (focus (repeat (first | exact One.here _ _ | apply One.there))))))) (fun _ => rfl) rfl rfl ?_
  rintro _ _ ⟨rfl, rfl⟩
  refine ops_eff (fun _ => rfl) (fits_of rfl) rfl (w_call (vs := [_]) (fun _ => rfl) Tryd.call6 (fun _ => rfl) rfl (new_state (sizeN n) (by omega) (by omega)) (by repeat (first | exact Pull.nil _ | (apply Pull.cons; (focus (repeat (first | exact One.here _ _ | apply One.there))))))) ?_ no_pan
  rintro _ _ ⟨_, ⟨dp, sd0, rfl, rfl, hR0⟩, rfl⟩
  have hD0 := JD.new (sizeN n) (by omega)
  have hv0 : (DiskS.new (sizeN n)).vi.length = sizeN n := by simp [DiskS.new]
  refine op_w (p_move (fun _ => rfl)) rfl rfl ?_
  refine op_w (p_extract (fun _ => rfl) rfl) rfl rfl ?_
  refine op_w (p_extract (fun _ => rfl) rfl) rfl rfl ?_
  refine op_w (p_assign (fun _ => rfl)) rfl rfl ?_
  refine op_w (p_assign (fun _ => rfl)) rfl rfl ?_
  refine ops_nil ?_
  refine nx_slots (env' := [(0, _), (1, _), (2, _), (7, _), (8, _)]) [0, 1, 2, 7, 8] rfl (fun _ => rfl) ?_
  refine nx_next ?_
  refine at_seq ?_
  refine at_region ?_
  refine op_w (p_move (fun _ => rfl)) rfl rfl ?_
  refine ops_eff (fun _ => rfl) (fits_of rfl) rfl (w_call (vs := [_]) (fun _ => rfl) Tryd.call8 (fun _ => rfl) rfl (jr_open _ _ dp sd0 pa Tx Tg zx zg hD0 hR0) (by repeat (first | exact Pull.nil _ | (apply Pull.cons; (focus (repeat (first | exact One.here _ _ | apply One.there))))))) ?_ no_pan
  rintro _ _ ⟨_, ⟨jp, sj0, rfl, hJ0, rfl⟩, rfl⟩
  refine op_w (p_move (fun _ => rfl)) rfl rfl ?_
  refine op_w (p_extract (fun _ => rfl) rfl) rfl rfl ?_
  refine op_w (p_extract (fun _ => rfl) rfl) rfl rfl ?_
  refine op_w (p_assign (fun _ => rfl)) rfl rfl ?_
  refine op_w (p_assign (fun _ => rfl)) rfl rfl ?_
  refine ops_nil ?_
  refine nx_slots (env' := [(0, _), (1, _), (2, _), (7, _), (8, _), (10, _), (11, _)]) [0, 1, 2, 7, 8, 10, 11] rfl (fun _ => rfl) ?_
  refine nx_next ?_
  refine at_seq ?_
  refine at_seq ?_
  refine at_region ?_
  refine op_w (p_move (fun _ => rfl)) rfl rfl ?_
  first | refine op_w (p_neq_nat (n := 0) (fun _ => rfl) (fun _ => rfl)) rfl rfl ?_ | refine op_w (p_neq (fun _ => rfl) (fun _ => rfl)) rfl rfl ?_
  refine ops_nil ?_
  refine nx_slots (env' := [(0, _), (1, _), (2, _), (7, _), (8, _), (10, _), (39, _)]) [0, 1, 2, 7, 8, 10, 39] rfl (fun _ => rfl) ?_
  refine nx_next ?_
  first | refine at_if (fun _ => rfl) (fun hg1 => ?_) (fun hg1 => ?_) | refine at_if_bool (fun _ => rfl) (fun hg1 => ?_) (fun hg1 => ?_)
  ·
    exfalso; first | exact hg1 rfl | (cases hg1; done) | contradiction | omega | (simp at hg1; omega) | (simp_all; done) | (simp_all; omega)
  ·
    refine at_skip ?_
    refine nx_next ?_
    refine at_seq ?_
    refine at_region ?_
    refine op_w (p_move (fun _ => rfl)) rfl rfl ?_
    refine ops_eff (fun _ => rfl) (fits_of rfl) rfl (w_call (vs := [_]) (fun _ => rfl) Tryd.call9 (fun _ => rfl) rfl (few_mem hls) (by repeat (first | exact Pull.nil _ | (apply Pull.cons; (focus (repeat (first | exact One.here _ _ | apply One.there))))))) ?_ no_pan
    rintro _ _ ⟨_, ⟨sf, hf, rfl⟩, rfl⟩
    rw [← hks] at hf
    obtain ⟨gl, cl, rfl⟩ := hf.form
    refine op_w (p_assign (fun _ => rfl)) rfl rfl ?_
    refine ops_nil ?_
    refine nx_slots (env' := [(0, _), (1, _), (2, _), (7, _), (8, _), (10, _)]) [0, 1, 2, 7, 8, 10] rfl (fun _ => rfl) ?_
    refine nx_next ?_
    refine at_seq ?_
    refine at_region ?_
    refine op_w (p_assign (fun _ => rfl)) rfl rfl ?_
    refine ops_nil ?_
    refine nx_slots (env' := [(0, _), (1, _), (2, _), (7, _), (8, _), (10, _), (12, _)]) [0, 1, 2, 7, 8, 10, 12] rfl (fun _ => rfl) ?_
    refine nx_next ?_
    refine at_seq ?_
    refine at_seq ?_
    refine at_region ?_
    refine op_w (p_assign (fun _ => rfl)) rfl rfl ?_
    refine ops_nil ?_
    refine nx_slots (env' := [(0, _), (1, _), (2, _), (7, _), (8, _), (10, _), (12, _), (13, _)]) [0, 1, 2, 7, 8, 10, 12, 13] rfl (fun _ => rfl) ?_
    refine nx_next ?_
    refine at_block ?_
    refine at_slots (env' := [(12, _), (13, _), (0, _), (1, _), (2, _), (7, _), (8, _), (10, _)]) [12, 13, 0, 1, 2, 7, 8, 10] rfl (fun _ => rfl) ?_
    refine at_loopB (e0 := [(12, _), (13, _)]) (H0 := _) (n := _) (fun m e H => ∃ (i : Nat), m = ks.length - i ∧ (i ≤ ks.length ∧ (outL zero32 (ks.take i)).length ≤ 200 * i) ∧ e = [(12, .int .i64 ((outL zero32 (ks.take i)).length : Int)), (13, .int .i64 (i : Int))] ∧ H = []) (by exact ⟨0, rfl, ⟨Nat.zero_le _, Nat.le_refl _⟩, rfl, rfl⟩) (by repeat (first | exact Pull.nil _ | (apply Pull.cons; (focus (repeat (first | exact One.here _ _ | apply One.there)))))) ?_
    rintro _ _ _ ⟨i, rfl, ⟨hi, hsum⟩, rfl, rfl⟩
    refine at_seq ?_
    refine at_seq ?_
    refine at_region ?_
    refine op_w (p_move (fun _ => rfl)) rfl rfl ?_
    refine op_w (p_move (fun _ => rfl)) rfl rfl ?_
    refine op_w (p_len_slice Tryd.underlying22 (fun _ => rfl)) rfl rfl ?_
    first | refine op_w (p_lss_nat (fun _ => rfl) (fun _ => rfl)) rfl rfl ?_ | refine op_w (p_lss (fun _ => rfl) (fun _ => rfl)) rfl rfl ?_
    refine ops_nil ?_
    refine nx_slots (env' := [(0, _), (1, _), (2, _), (7, _), (8, _), (10, _), (12, _), (13, _), (45, _)]) [0, 1, 2, 7, 8, 10, 12, 13, 45] rfl (fun _ => rfl) ?_
    refine nx_next ?_
    first | refine at_if (fun _ => rfl) (fun hlt => ?_) (fun hlt => ?_) | refine at_if_bool (fun _ => rfl) (fun hlt => ?_) (fun hlt => ?_)
    ·
      rw [List.length_map] at hlt
      refine at_skip ?_
      refine nx_next ?_
      refine at_seq ?_
      refine at_block ?_
      refine at_seq ?_
      obtain ⟨x, hx⟩ : ∃ x, ks[i]? = some x := ⟨_, List.getElem?_eq_getElem hlt⟩
      have hx100 := hk100 x (List.mem_of_getElem? hx)
      obtain ⟨gk, ck, curk, zk, hvk, rfl, hink⟩ := row_in hf (by rw [List.length_map]; omega)
      injection hvk with e1 e2 e3
      subst e1 e3
      have hcell := cellAt hink hx
      have hsn := outT_snoc zero32 ks i x hx (by omega)
      have hes := str_size (encS x)
      have hel : (encS x).length ≤ 110 := by
        have := encI_len x.length (by omega) (by omega)
        unfold encS; rw [List.length_append]; omega
      refine at_region ?_
      refine op_w (p_move (fun _ => rfl)) rfl rfl ?_
      refine op_w (p_move (fun _ => rfl)) rfl rfl ?_
      first | (refine op_w (p_indexAddr_nat0 Tryd.underlying22 Tryd.sizeOf9 (fun _ => rfl) (fun _ => rfl) ?_) rfl rfl ?_; (focus (first | omega | (rw [List.length_map]; omega)))) | (refine op_w (p_indexAddr_nat1 Tryd.underlying22 Tryd.sizeOf9 (fun _ => rfl) (fun _ => rfl) ?_) rfl rfl ?_; (focus (first | omega | (rw [List.length_map]; omega))))
      refine op_r (by repeat (first | exact Has.here _ | apply Has.there)) (p_load Tryd.isAgg9 (fun _ => rfl) (by first | exact hcell | (rw [Nat.mul_one]; exact hcell) | simpa using hcell)) rfl rfl ?_
      refine op_e (w_callR (vs := [_]) (fun _ => rfl) Tryd.call10 (fun _ => rfl) rfl (rputString_spec x (by omega)) (by repeat (first | exact Pull.nil _ | (apply Pull.cons; (focus (repeat (first | exact One.here _ _ | apply One.there))))))) (fun _ => rfl) rfl rfl ?_
      rintro _ _ ⟨rfl, rfl⟩
      refine op_w (p_move (fun _ => rfl)) rfl rfl ?_
      refine op_w (p_extract (fun _ => rfl) rfl) rfl rfl ?_
      refine op_w (p_extract (fun _ => rfl) rfl) rfl rfl ?_
      refine op_w (p_assign (fun _ => rfl)) rfl rfl ?_
      refine op_w (p_assign (fun _ => rfl)) rfl rfl ?_
      refine ops_nil ?_
      refine nx_slots (env' := [(0, _), (1, _), (2, _), (7, _), (8, _), (10, _), (12, _), (13, _), (14, _)]) [0, 1, 2, 7, 8, 10, 12, 13, 14] rfl (fun _ => rfl) ?_
      refine nx_next ?_
      refine at_region ?_
      refine op_w (p_move (fun _ => rfl)) rfl rfl ?_
      first | (refine op_w (p_add_nat (n := 33) (fun _ => rfl) (fun _ => rfl) ?_) rfl rfl ?_; (focus (omega))) | (refine op_w (p_add (fun _ => rfl) (fun _ => rfl) (IntWalk.i64_in _ ?_)) rfl rfl ?_; (focus (omega)))
      refine op_w (p_move (fun _ => rfl)) rfl rfl ?_
      refine op_w (p_len_str Tryd.underlying9 (fun _ => rfl)) rfl rfl ?_
      first | (refine op_w (p_add_nat (fun _ => rfl) (fun _ => rfl) ?_) rfl rfl ?_; (focus (omega))) | (refine op_w (p_add (fun _ => rfl) (fun _ => rfl) (IntWalk.i64_in _ ?_)) rfl rfl ?_; (focus (omega)))
      refine op_w (p_assign (fun _ => rfl)) rfl rfl ?_
      refine ops_nil ?_
      refine nx_slots (env' := [(0, _), (1, _), (2, _), (7, _), (8, _), (10, _), (12, _), (13, _)]) [0, 1, 2, 7, 8, 10, 12, 13] rfl (fun _ => rfl) ?_
      refine nx_block_normal ?_
      refine nx_next ?_
      refine at_region ?_
      refine op_w (p_move (fun _ => rfl)) rfl rfl ?_
      first | (refine op_w (p_add_nat (n := 1) (fun _ => rfl) (fun _ => rfl) ?_) rfl rfl ?_; (focus (omega))) | (refine op_w (p_add (fun _ => rfl) (fun _ => rfl) (IntWalk.i64_in _ ?_)) rfl rfl ?_; (focus (omega)))
      refine op_w (p_assign (fun _ => rfl)) rfl rfl ?_
      refine ops_nil ?_
      refine nx_slots (env' := [(0, _), (1, _), (2, _), (7, _), (8, _), (10, _), (12, _), (13, _)]) [0, 1, 2, 7, 8, 10, 12, 13] rfl (fun _ => rfl) ?_
      refine nx_slots (env' := [(12, _), (13, _), (0, _), (1, _), (2, _), (7, _), (8, _), (10, _)]) [12, 13, 0, 1, 2, 7, 8, 10] rfl (fun _ => rfl) ?_
      refine nx_againB (e' := [(12, _), (13, _)]) (m := _) (H' := _) (by exact ⟨i + 1, rfl, ⟨by omega, by rw [hsn]; omega⟩, by rw [hsn, hes], rfl⟩) ?hm_2 ?hp_2
      case hm_2 => omega
      case hp_2 => repeat (first | exact Sub.refl _ | exact Sub.nil _ | (apply Sub.cons; (focus (repeat (first | exact One.here _ _ | apply One.there)))) | refine Sub.drop _ ?_)
    ·
      rw [List.length_map] at hlt
      rw [List.take_of_length_le (show ks.length ≤ i by omega)]
      refine at_exit ?_
      refine nx_thru (by intro h; cases h) ?_
      refine nx_thru (by intro h; cases h) ?_
      refine nx_block_exit ?_
      refine nx_next ?_
      refine at_seq ?_
      refine at_region ?_
      refine op_w (p_move (fun _ => rfl)) rfl rfl ?_
      refine op_w (p_move (fun _ => rfl)) rfl rfl ?_
      refine ops_eff (fun _ => rfl) (fits_of rfl) rfl (w_call (vs := [_, _]) (fun _ => rfl) Tryd.call11 (fun _ => rfl) rfl (jd_append _ _ jp dp sj0 sf sd0 _ ks Tg zg hD0 hJ0 hR0 hf hshort (by omega)) (by repeat (first | exact Pull.nil _ | (apply Pull.cons; (focus (repeat (first | exact One.here _ _ | apply One.there))))))) ?_ no_pan
      rintro _ _ ⟨_, ⟨e1, j1, d1, sj1, sd1, rfl, hD1, hv1, ho1, hJ1, hR1, rfl⟩, rfl⟩
      have hx1 : e1 = 0 ∧ j1.rs = ks ∧ j1.sz = (outL zero32 ks).length := by
        rcases ho1 with ⟨h, _⟩ | ⟨_, h1, h2, h3⟩
        · exfalso; simp only at h; omega
        · exact ⟨h1, h2, by rw [h3]; simp⟩
      obtain ⟨rfl, hrs1, hz1⟩ := hx1
      rw [hv0] at hv1
      refine op_w (p_assign (fun _ => rfl)) rfl rfl ?_
      refine ops_nil ?_
      refine nx_slots (env' := [(0, _), (1, _), (2, _), (7, _), (8, _), (10, _), (12, _), (16, _)]) [0, 1, 2, 7, 8, 10, 12, 16] rfl (fun _ => rfl) ?_
      refine nx_next ?_
      refine at_seq ?_
      refine at_region ?_
      refine op_w (p_move (fun _ => rfl)) rfl rfl ?_
      refine op_w (p_move (fun _ => rfl)) rfl rfl ?_
      refine op_e (w_callR (vs := [_]) (fun _ => rfl) Tryd.call7 (fun _ => rfl) rfl (size_law n h1 h2) (by repeat (first | exact Pull.nil _ | (apply Pull.cons; (focus (repeat (first | exact One.here _ _ | apply One.there))))))) (fun _ => rfl) rfl rfl ?_
      rintro _ _ ⟨rfl, rfl⟩
      first | refine op_w (p_leq_nat (fun _ => rfl) (fun _ => rfl)) rfl rfl ?_ | refine op_w (p_leq (fun _ => rfl) (fun _ => rfl)) rfl rfl ?_
      refine op_w (p_assign (fun _ => rfl)) rfl rfl ?_
      refine ops_nil ?_
      refine nx_slots (env' := [(0, _), (1, _), (2, _), (7, _), (8, _), (10, _), (12, _), (16, _), (17, _)]) [0, 1, 2, 7, 8, 10, 12, 16, 17] rfl (fun _ => rfl) ?_
      refine nx_next ?_
      refine at_seq ?_
      refine at_seq ?_
      refine at_region ?_
      refine op_w (p_move (fun _ => rfl)) rfl rfl ?_
      refine op_w (p_move (fun _ => rfl)) rfl rfl ?_
      first | refine op_w (p_eql_nat (n := 0) (fun _ => rfl) (fun _ => rfl)) rfl rfl ?_ | refine op_w (p_eql (fun _ => rfl) (fun _ => rfl)) rfl rfl ?_
      refine op_w (p_neq_bool Tryd.underlying4 (fun _ => rfl) (fun _ => rfl)) rfl rfl ?_
      refine op_w (p_move (fun _ => rfl)) rfl rfl ?_
      first | refine ops_split (t := 72) (fun _ => rfl) rfl (fun hq1 => ?_) (fun hq1 => ?_) | refine ops_split_bool (t := 72) (fun _ => rfl) rfl (fun hq1 => ?_) (fun hq1 => ?_)
      ·
        exfalso; first | exact hq1 rfl | (cases hq1; done) | contradiction | omega | (simp at hq1; omega) | (simp_all; done) | (simp_all; omega)
      ·
        refine op_wg (fun _ => rfl) (p_move (fun _ => rfl)) rfl rfl ?_
        first | refine op_wg (fun _ => rfl) (p_not_dec (fun _ => rfl)) rfl rfl ?_ | refine op_wg (fun _ => rfl) (p_not (fun _ => rfl)) rfl rfl ?_
        refine op_wg (fun _ => rfl) (p_move (fun _ => rfl)) rfl rfl ?_
        first | refine ops_split (t := 75) (fun _ => rfl) rfl (fun hq2 => ?_) (fun hq2 => ?_) | refine ops_split_bool (t := 75) (fun _ => rfl) rfl (fun hq2 => ?_) (fun hq2 => ?_)
        ·
          exfalso; first | exact hq2 rfl | (cases hq2; done) | contradiction | omega | (simp at hq2; omega) | (simp_all; done) | (simp_all; omega)
        ·
          refine op_skip (fun _ => rfl) rfl ?_
          refine op_skip (fun _ => rfl) rfl ?_
          refine op_wg (fun _ => rfl) (p_pick_f (fun _ => rfl) (fun _ => rfl)) rfl rfl ?_
          refine op_w (p_pick_f (fun _ => rfl) (fun _ => rfl)) rfl rfl ?_
          refine op_w (p_move (fun _ => rfl)) rfl rfl ?_
          refine op_wg (fun _ => rfl) (p_move (fun _ => rfl)) rfl rfl ?_
          refine op_wg (fun _ => rfl) (p_move (fun _ => rfl)) rfl rfl ?_
          first | refine ops_split (t := 82) (fun _ => rfl) rfl (fun hq3 => ?_) (fun hq3 => ?_) | refine ops_split_bool (t := 82) (fun _ => rfl) rfl (fun hq3 => ?_) (fun hq3 => ?_)
          ·
            refine op_wg (fun _ => rfl) (p_move (fun _ => rfl)) rfl rfl ?_
            refine op_e (w_callR (vs := [_]) (fun _ => rfl) Tryd.call12 (fun _ => rfl) rfl (jr_room _ _ jp dp sj1 sd1 hJ1 hR1 hD1.fit) (by repeat (first | exact Pull.nil _ | (apply Pull.cons; (focus (repeat (first | exact One.here _ _ | apply One.there))))))) (fun _ => rfl) rfl rfl ?_
            rintro _ _ ⟨rfl, rfl⟩
            refine op_wg (fun _ => rfl) (p_move (fun _ => rfl)) rfl rfl ?_
            refine op_e (w_callR (vs := [_]) (fun _ => rfl) Tryd.call7 (fun _ => rfl) rfl (size_law n h1 h2) (by repeat (first | exact Pull.nil _ | (apply Pull.cons; (focus (repeat (first | exact One.here _ _ | apply One.there))))))) (fun _ => rfl) rfl rfl ?_
            rintro _ _ ⟨rfl, rfl⟩
            refine op_wg (fun _ => rfl) (p_move (fun _ => rfl)) rfl rfl ?_
            first | (refine op_wg (fun _ => rfl) (p_sub_nat (fun _ => rfl) (fun _ => rfl) ?_ ?_) rfl rfl ?_; (focus (omega)); (focus (omega))) | (refine op_wg (fun _ => rfl) (p_sub (fun _ => rfl) (fun _ => rfl) (IntWalk.i64_in _ ?_)) rfl rfl ?_; (focus (omega)))
            first | refine op_wg (fun _ => rfl) (p_neq_nat (fun _ => rfl) (fun _ => rfl)) rfl rfl ?_ | refine op_wg (fun _ => rfl) (p_neq (fun _ => rfl) (fun _ => rfl)) rfl rfl ?_
            refine op_wg (fun _ => rfl) (p_pick_t (fun _ => rfl) (fun _ => rfl)) rfl rfl ?_
            refine op_w (p_pick_f (fun _ => rfl) (fun _ => rfl)) rfl rfl ?_
            refine op_w (p_move (fun _ => rfl)) rfl rfl ?_
            first | refine ops_split (t := 92) (fun _ => rfl) rfl (fun hq4 => ?_) (fun hq4 => ?_) | refine ops_split_bool (t := 92) (fun _ => rfl) rfl (fun hq4 => ?_) (fun hq4 => ?_)
            ·
              exfalso; first | exact hq4 rfl | (cases hq4; done) | contradiction | omega | (simp at hq4; omega) | (simp_all; done) | (simp_all; omega)
            ·
              refine op_wg (fun _ => rfl) (p_move (fun _ => rfl)) rfl rfl ?_
              first | refine op_wg (fun _ => rfl) (p_not_dec (fun _ => rfl)) rfl rfl ?_ | refine op_wg (fun _ => rfl) (p_not (fun _ => rfl)) rfl rfl ?_
              refine op_wg (fun _ => rfl) (p_move (fun _ => rfl)) rfl rfl ?_
              first | refine ops_split (t := 95) (fun _ => rfl) rfl (fun hq5 => ?_) (fun hq5 => ?_) | refine ops_split_bool (t := 95) (fun _ => rfl) rfl (fun hq5 => ?_) (fun hq5 => ?_)
              ·
                exfalso; first | exact hq5 rfl | (cases hq5; done) | contradiction | omega | (simp at hq5; omega) | (simp_all; done) | (simp_all; omega)
              ·
                refine op_skip (fun _ => rfl) rfl ?_
                refine op_skip (fun _ => rfl) rfl ?_
                refine op_skip (fun _ => rfl) rfl ?_
                refine op_skip (fun _ => rfl) rfl ?_
                refine op_skip (fun _ => rfl) rfl ?_
                refine op_wg (fun _ => rfl) (p_pick_f (fun _ => rfl) (fun _ => rfl)) rfl rfl ?_
                refine op_w (p_pick_f (fun _ => rfl) (fun _ => rfl)) rfl rfl ?_
                refine ops_nil ?_
                refine nx_slots (env' := [(1, _), (2, _), (7, _), (8, _), (10, _), (102, _)]) [1, 2, 7, 8, 10, 102] rfl (fun _ => rfl) ?_
                refine nx_next ?_
                refine at_else (fun _ => rfl) ?_
                refine at_skip ?_
                refine nx_next ?_
                refine at_seq ?_
                refine at_region ?_
                refine op_w (p_move (fun _ => rfl)) rfl rfl ?_
                refine ops_eff (fun _ => rfl) (fits_of rfl) rfl (w_call (vs := [_]) (fun _ => rfl) Tryd.call13 (fun _ => rfl) rfl (jr_records _ jp dp sj1 hJ1) (by repeat (first | exact Pull.nil _ | (apply Pull.cons; (focus (repeat (first | exact One.here _ _ | apply One.there))))))) ?_ no_pan
                rintro _ _ ⟨_, ⟨sw, hw, rfl⟩, rfl⟩
                refine op_w (p_assign (fun _ => rfl)) rfl rfl ?_
                refine ops_nil ?_
                refine nx_slots (env' := [(1, _), (2, _), (7, _), (8, _), (10, _), (18, _)]) [1, 2, 7, 8, 10, 18] rfl (fun _ => rfl) ?_
                refine nx_next ?_
                refine at_seq ?_
                refine at_region ?_
                refine op_w (p_move (fun _ => rfl)) rfl rfl ?_
                refine op_e (w_buildSlice0 Tryd.underlying22 Tryd.sizeOf9) (fun _ => rfl) rfl rfl ?_
                rintro _ _ ⟨ge, rfl, rfl⟩
                refine op_w (p_move (fun _ => rfl)) rfl rfl ?_
                refine op_e (w_append_row (by_ := 16) Tryd.underlying22 (rfl : Tryd.prog.info? 9 = some Tryd.t9) rfl rfl rfl rfl (fun _ => rfl) (row_new _ ge [] 0 rfl (Nat.zero_le _)) (fun _ => rfl) (hf) (by repeat (first | exact One.here _ _ | apply One.there)) (by repeat (first | exact One.here _ _ | apply One.there)) (by simp [Value.oneCell', strV]) (by (simp only [List.length_map, List.length_nil]; omega)) (by (simp only [List.length_map, List.length_nil]; omega))) (fun _ => rfl) rfl rfl ?_
                rintro _ _ ⟨sp, hrp, rfl⟩
                obtain ⟨gp, cp, rfl⟩ := hrp.form
                refine op_w (p_move (fun _ => rfl)) rfl rfl ?_
                refine op_e (w_callR (vs := [_, _]) (fun _ => rfl) Tryd.call14 (fun _ => rfl) rfl (pick_spec more 100 (by decide) (by decide) m1 m2) (by repeat (first | exact Pull.nil _ | (apply Pull.cons; (focus (repeat (first | exact One.here _ _ | apply One.there))))))) (fun _ => rfl) rfl rfl ?_
                rintro _ _ ⟨rfl, rfl⟩
                first | (refine op_w (p_add_nat (m := 65537) (fun _ => rfl) (fun _ => rfl) ?_) rfl rfl ?_; (focus (omega))) | (refine op_w (p_add (fun _ => rfl) (fun _ => rfl) (IntWalk.i64_in _ ?_)) rfl rfl ?_; (focus (omega)))
                refine op_e (w_makeSlice (by_ := 1) Tryd.underlying38 (rfl : Tryd.prog.info? 5 = some Tryd.t5) rfl rfl rfl rfl (fun _ => rfl) (fun _ => rfl) ?_ ?_ ?_) (fun _ => rfl) rfl rfl ?_
                (focus (omega))
                (focus (omega))
                (focus (omega))
                rintro _ _ ⟨gm, rfl, rfl⟩
                refine op_r (by repeat (first | exact Has.here _ | apply Has.there)) (p_conv_bytes_str Tryd.underlying38 Tryd.underlying5 Tryd.underlying9 (fun _ => rfl) (by exact (show (_ = List.map u8v (List.replicate (65537 + pickN more 100) 0)) ∧ _ from ⟨by simp [u8v], by simp⟩))) rfl rfl ?_
                refine op_e (w_buildSlice (vs := [_]) (cs := [_]) Tryd.underlying22 Tryd.sizeOf9 Tryd.zeroValue9 (fun _ => rfl) rfl rfl rfl rfl rfl) (fun _ => rfl) rfl rfl ?_
                rintro _ _ ⟨gb, rfl, rfl⟩
                refine op_e (w_append_row (by_ := 16) Tryd.underlying22 (rfl : Tryd.prog.info? 9 = some Tryd.t9) rfl rfl rfl rfl (fun _ => rfl) (hrp) (fun _ => rfl) (row_new _ gb [strV (List.replicate (65537 + pickN more 100) 0)] 1 rfl (by decide)) (by repeat (first | exact One.here _ _ | apply One.there)) (by repeat (first | exact One.here _ _ | apply One.there)) (by simp [Value.oneCell', strV]) (by (simp only [List.length_map, List.length_append, List.length_cons, List.length_nil]; omega)) (by (simp only [List.length_map, List.length_append, List.length_cons, List.length_nil]; omega))) (fun _ => rfl) rfl rfl ?_
                rintro _ _ ⟨sq, hrq, rfl⟩
                have hq9 : [] ++ List.map strV ks ++ [strV (List.replicate (65537 + pickN more 100) 0)] = (ks ++ [List.replicate (65537 + pickN more 100) 0]).map strV := by simp
                rw [hq9] at hrq
                obtain ⟨gq, cq, rfl⟩ := hrq.form
                refine op_e (w_callR (vs := [_, _]) (fun _ => rfl) Tryd.call11 (fun _ => rfl) rfl (jr_long _ jp dp sj1 sq _ (ks ++ [List.replicate (65537 + pickN more 100) 0]) hJ1 hD1.br hrq (by simp; omega) (by simp [isLong]; right; omega)) (by repeat (first | exact Pull.nil _ | (apply Pull.cons; (focus (repeat (first | exact One.here _ _ | apply One.there))))))) (fun _ => rfl) rfl rfl ?_
                rintro _ _ ⟨rfl, rfl⟩
                refine op_w (p_assign (fun _ => rfl)) rfl rfl ?_
                refine ops_nil ?_
                refine nx_slots (env' := [(1, _), (7, _), (8, _), (10, _), (18, _), (19, _)]) [1, 7, 8, 10, 18, 19] rfl (fun _ => rfl) ?_
                refine nx_next ?_
                refine at_seq ?_
                refine at_region ?_
                refine op_w (p_move (fun _ => rfl)) rfl rfl ?_
                refine op_e (w_callR (vs := [_, _]) (fun _ => rfl) Tryd.call11 (fun _ => rfl) rfl (jr_none _ _ jp dp sj1 sd1 hJ1 hR1 hD1.br hD1.fit) (by repeat (first | exact Pull.nil _ | (apply Pull.cons; (focus (repeat (first | exact One.here _ _ | apply One.there))))))) (fun _ => rfl) rfl rfl ?_
                rintro _ _ ⟨rfl, rfl⟩
                refine op_w (p_assign (fun _ => rfl)) rfl rfl ?_
                refine ops_nil ?_
                refine nx_slots (env' := [(1, _), (7, _), (8, _), (10, _), (18, _), (19, _), (20, _)]) [1, 7, 8, 10, 18, 19, 20] rfl (fun _ => rfl) ?_
                refine nx_next ?_
                refine at_seq ?_
                refine at_region ?_
                refine op_w (p_move (fun _ => rfl)) rfl rfl ?_
                refine ops_eff (fun _ => rfl) (fits_of rfl) rfl (w_call (vs := [_, _]) (fun _ => rfl) Tryd.call15 (fun _ => rfl) rfl (disk_cut d1 dp sd1 hR1 hD1.off 0 (by decide)) (by repeat (first | exact Pull.nil _ | (apply Pull.cons; (focus (repeat (first | exact One.here _ _ | apply One.there))))))) ?_ no_pan
                rintro _ _ ⟨_, ⟨sc, rfl, rfl, hRc⟩, rfl⟩
                obtain ⟨dc, hdc⟩ : ∃ dc, dc = (d1.cut 0).2 := ⟨_, rfl⟩
                have hcv : dc.vi = d1.vi := by rw [hdc]; unfold DiskS.cut; rw [hD1.off]; rfl
                have hco : dc.off = true := by rw [hdc]; unfold DiskS.cut; rw [hD1.off]; rfl
                have hcp : dc.pend = [] := by rw [hdc]; unfold DiskS.cut; rw [hD1.off]; exact hD1.pend
                rw [← hdc] at hRc
                have hcl : dc.vi.length = d1.vi.length := by rw [hcv]
                have hfit1 := hD1.fit
                have hxl := outX_len j1.h
                refine ops_nil ?_
                refine nx_slots (env' := [(1, _), (7, _), (10, _), (18, _), (19, _), (20, _)]) [1, 7, 10, 18, 19, 20] rfl (fun _ => rfl) ?_
                refine nx_next ?_
                refine at_seq ?_
                refine at_region ?_
                refine op_w (p_move (fun _ => rfl)) rfl rfl ?_
                refine op_e (w_buildSlice (vs := [_]) (cs := [_]) Tryd.underlying22 Tryd.sizeOf9 Tryd.zeroValue9 (fun _ => rfl) rfl rfl rfl rfl rfl) (fun _ => rfl) rfl rfl ?_
                rintro _ _ ⟨gx, rfl, rfl⟩
                refine ops_eff (fun _ => rfl) (fits_of rfl) rfl (w_call (vs := [_, _]) (fun _ => rfl) Tryd.call11 (fun _ => rfl) rfl (jr_off j1 dc jp dp sj1 _ sc _ [[120]] Tg zg hJ1 hRc (row_new _ gx ([[120]].map strV) 1 rfl (by decide)) hD1.br (by omega) (by rw [hcp]; simp) (by decide) (by decide) (by rw [hxl]; omega) hco (by intro h; rw [h] at hxl; simp at hxl)) (by repeat (first | exact Pull.nil _ | (apply Pull.cons; (focus (repeat (first | exact One.here _ _ | apply One.there))))))) ?_ no_pan
                rintro _ _ ⟨_, ⟨sj2, sd2, rfl, hJ2, hR2, rfl⟩, rfl⟩
                refine op_w (p_assign (fun _ => rfl)) rfl rfl ?_
                refine ops_nil ?_
                refine nx_slots (env' := [(1, _), (7, _), (10, _), (18, _), (19, _), (20, _), (21, _)]) [1, 7, 10, 18, 19, 20, 21] rfl (fun _ => rfl) ?_
                refine nx_next ?_
                refine at_seq ?_
                refine at_region ?_
                refine op_w (p_move (fun _ => rfl)) rfl rfl ?_
                refine op_e (w_callR (vs := [_]) (fun _ => rfl) Tryd.call12 (fun _ => rfl) rfl (jr_room { j1 with br := true } dc jp dp sj2 sd2 hJ2 hR2 (by show j1.sz ≤ _; omega)) (by repeat (first | exact Pull.nil _ | (apply Pull.cons; (focus (repeat (first | exact One.here _ _ | apply One.there))))))) (fun _ => rfl) rfl rfl ?_
                rintro _ _ ⟨rfl, rfl⟩
                first | refine op_w (p_lss_nat (n := 35) (fun _ => rfl) (fun _ => rfl)) rfl rfl ?_ | refine op_w (p_lss (fun _ => rfl) (fun _ => rfl)) rfl rfl ?_
                refine op_w (p_assign (fun _ => rfl)) rfl rfl ?_
                refine ops_nil ?_
                refine nx_slots (env' := [(1, _), (7, _), (10, _), (18, _), (19, _), (20, _), (21, _), (22, _)]) [1, 7, 10, 18, 19, 20, 21, 22] rfl (fun _ => rfl) ?_
                refine nx_next ?_
                refine at_seq ?_
                refine at_region ?_
                refine op_w (p_move (fun _ => rfl)) rfl rfl ?_
                refine op_e (w_callR (vs := [_, _]) (fun _ => rfl) Tryd.call11 (fun _ => rfl) rfl (jr_broken _ jp dp sj2 _ hJ2 rfl) (by repeat (first | exact Pull.nil _ | (apply Pull.cons; (focus (repeat (first | exact One.here _ _ | apply One.there))))))) (fun _ => rfl) rfl rfl ?_
                rintro _ _ ⟨rfl, rfl⟩
                refine op_w (p_assign (fun _ => rfl)) rfl rfl ?_
                refine ops_nil ?_
                refine nx_slots (env' := [(1, _), (7, _), (10, _), (18, _), (19, _), (20, _), (21, _), (22, _), (23, _)]) [1, 7, 10, 18, 19, 20, 21, 22, 23] rfl (fun _ => rfl) ?_
                refine nx_next ?_
                refine at_seq ?_
                refine at_region ?_
                refine op_w (p_assign (fun _ => rfl)) rfl rfl ?_
                refine ops_nil ?_
                refine nx_slots (env' := [(1, _), (7, _), (10, _), (18, _), (19, _), (20, _), (21, _), (22, _), (23, _), (24, _)]) [1, 7, 10, 18, 19, 20, 21, 22, 23, 24] rfl (fun _ => rfl) ?_
                refine nx_next ?_
                refine at_seq ?_
                refine at_region ?_
                refine op_w (p_move (fun _ => rfl)) rfl rfl ?_
                refine op_w (p_move (fun _ => rfl)) rfl rfl ?_
                first | refine ops_split (t := 130) (fun _ => rfl) rfl (fun hb1 => ?_) (fun hb1 => ?_) | refine ops_split_bool (t := 130) (fun _ => rfl) rfl (fun hb1 => ?_) (fun hb1 => ?_)
                ·
                  exfalso; first | exact hb1 rfl | (cases hb1; done) | contradiction | omega | (simp at hb1; omega) | (simp_all; done) | (simp_all; omega)
                ·
                  refine op_skip (fun _ => rfl) rfl ?_
                  refine op_skip (fun _ => rfl) rfl ?_
                  refine op_w (p_pick_f (fun _ => rfl) (fun _ => rfl)) rfl rfl ?_
                  refine op_w (p_move (fun _ => rfl)) rfl rfl ?_
                  refine op_skip (fun _ => rfl) rfl ?_
                  refine op_skip (fun _ => rfl) rfl ?_
                  refine op_w (p_pick_f (fun _ => rfl) (fun _ => rfl)) rfl rfl ?_
                  refine op_w (p_move (fun _ => rfl)) rfl rfl ?_
                  refine op_wg (fun _ => rfl) (p_move (fun _ => rfl)) rfl rfl ?_
                  first | refine op_wg (fun _ => rfl) (p_not_dec (fun _ => rfl)) rfl rfl ?_ | refine op_wg (fun _ => rfl) (p_not (fun _ => rfl)) rfl rfl ?_
                  refine op_wg (fun _ => rfl) (p_move (fun _ => rfl)) rfl rfl ?_
                  first | refine ops_split (t := 141) (fun _ => rfl) rfl (fun hb4 => ?_) (fun hb4 => ?_) | refine ops_split_bool (t := 141) (fun _ => rfl) rfl (fun hb4 => ?_) (fun hb4 => ?_)
                  ·
                    refine op_wg (fun _ => rfl) (p_move (fun _ => rfl)) rfl rfl ?_
                    first | refine op_wg (fun _ => rfl) (p_eql_nat (n := 221) (fun _ => rfl) (fun _ => rfl)) rfl rfl ?_ | refine op_wg (fun _ => rfl) (p_eql (fun _ => rfl) (fun _ => rfl)) rfl rfl ?_
                    refine op_wg (fun _ => rfl) (p_pick_t (fun _ => rfl) (fun _ => rfl)) rfl rfl ?_
                    refine op_wg (fun _ => rfl) (p_move (fun _ => rfl)) rfl rfl ?_
                    first | refine ops_split (t := 145) (fun _ => rfl) rfl (fun hb5 => ?_) (fun hb5 => ?_) | refine ops_split_bool (t := 145) (fun _ => rfl) rfl (fun hb5 => ?_) (fun hb5 => ?_)
                    ·
                      refine op_wg (fun _ => rfl) (p_move (fun _ => rfl)) rfl rfl ?_
                      first | refine op_wg (fun _ => rfl) (p_eql_nat (n := 230) (fun _ => rfl) (fun _ => rfl)) rfl rfl ?_ | refine op_wg (fun _ => rfl) (p_eql (fun _ => rfl) (fun _ => rfl)) rfl rfl ?_
                      refine op_wg (fun _ => rfl) (p_pick_t (fun _ => rfl) (fun _ => rfl)) rfl rfl ?_
                      refine op_w (p_pick_f (fun _ => rfl) (fun _ => rfl)) rfl rfl ?_
                      refine op_w (p_assign (fun _ => rfl)) rfl rfl ?_
                      refine ops_nil ?_
                      refine nx_slots (env' := [(1, _), (7, _), (10, _), (18, _), (19, _), (20, _), (24, _), (25, _)]) [1, 7, 10, 18, 19, 20, 24, 25] rfl (fun _ => rfl) ?_
                      refine nx_next ?_
                      refine at_seq ?_
                      refine at_region ?_
                      refine op_w (p_move (fun _ => rfl)) rfl rfl ?_
                      refine op_w (p_move (fun _ => rfl)) rfl rfl ?_
                      refine ops_split_bool (t := 151) (fun _ => rfl) rfl (fun hc1 => ?_) (fun hc1 => ?_)
                      ·
                        refine op_wg (fun _ => rfl) (p_move (fun _ => rfl)) rfl rfl ?_
                        first | refine op_wg (fun _ => rfl) (p_eql_nat (n := 230) (fun _ => rfl) (fun _ => rfl)) rfl rfl ?_ | refine op_wg (fun _ => rfl) (p_eql (fun _ => rfl) (fun _ => rfl)) rfl rfl ?_
                        refine op_w (p_pick_t (fun _ => rfl) (fun _ => rfl)) rfl rfl ?_
                        refine op_w (p_move (fun _ => rfl)) rfl rfl ?_
                        first | refine ops_split (t := 155) (fun _ => rfl) rfl (fun hc2 => ?_) (fun hc2 => ?_) | refine ops_split_bool (t := 155) (fun _ => rfl) rfl (fun hc2 => ?_) (fun hc2 => ?_)
                        ·
                          refine op_wg (fun _ => rfl) (p_move (fun _ => rfl)) rfl rfl ?_
                          first | refine op_wg (fun _ => rfl) (p_eql_nat (n := 0) (fun _ => rfl) (fun _ => rfl)) rfl rfl ?_ | refine op_wg (fun _ => rfl) (p_eql (fun _ => rfl) (fun _ => rfl)) rfl rfl ?_
                          refine op_w (p_pick_t (fun _ => rfl) (fun _ => rfl)) rfl rfl ?_
                          refine op_w (p_move (fun _ => rfl)) rfl rfl ?_
                          first | refine ops_split (t := 159) (fun _ => rfl) rfl (fun hc3 => ?_) (fun hc3 => ?_) | refine ops_split_bool (t := 159) (fun _ => rfl) rfl (fun hc3 => ?_) (fun hc3 => ?_)
                          ·
                            refine op_wg (fun _ => rfl) (p_move (fun _ => rfl)) rfl rfl ?_
                            refine op_w (p_pick_t (fun _ => rfl) (fun _ => rfl)) rfl rfl ?_
                            refine op_w (p_move (fun _ => rfl)) rfl rfl ?_
                            first | refine ops_split (t := 162) (fun _ => rfl) rfl (fun hc4 => ?_) (fun hc4 => ?_) | refine ops_split_bool (t := 162) (fun _ => rfl) rfl (fun hc4 => ?_) (fun hc4 => ?_)
                            ·
                              refine op_wg (fun _ => rfl) (p_move (fun _ => rfl)) rfl rfl ?_
                              refine ops_eff (fun _ => rfl) (fits_of rfl) rfl (w_call (vs := [_]) (fun _ => rfl) Tryd.call13 (fun _ => rfl) rfl (jr_records _ jp dp sj2 hJ2) (by repeat (first | exact Pull.nil _ | (apply Pull.cons; (focus (repeat (first | exact One.here _ _ | apply One.there))))))) ?_ no_pan
                              rintro _ _ ⟨_, ⟨sr3, hr3, rfl⟩, rfl⟩
                              refine op_wg (fun _ => rfl) (p_move (fun _ => rfl)) rfl rfl ?_
                              refine op_e (w_callR (vs := [_, _]) (fun _ => rfl) Tryd.call16 (fun _ => rfl) rfl (same_rows hr3 hw hJ2.2.1) (by repeat (first | exact Pull.nil _ | (apply Pull.cons; (focus (repeat (first | exact One.here _ _ | apply One.there))))))) (fun _ => rfl) rfl rfl ?_
                              rintro _ _ ⟨rfl, rfl⟩
                              refine op_w (p_pick_t (fun _ => rfl) (fun _ => rfl)) rfl rfl ?_
                              refine op_w (p_move (fun _ => rfl)) rfl rfl ?_
                              first | refine ops_split (t := 168) (fun _ => rfl) rfl (fun hc5 => ?_) (fun hc5 => ?_) | refine ops_split_bool (t := 168) (fun _ => rfl) rfl (fun hc5 => ?_) (fun hc5 => ?_)
                              ·
                                refine op_wg (fun _ => rfl) (p_move (fun _ => rfl)) rfl rfl ?_
                                refine op_wg (fun _ => rfl) (p_move (fun _ => rfl)) rfl rfl ?_
                                refine op_e (w_callR (vs := [_, _]) (fun _ => rfl) Tryd.call11 (fun _ => rfl) rfl (append_nilj _) (by repeat (first | exact Pull.nil _ | (apply Pull.cons; (focus (repeat (first | exact One.here _ _ | apply One.there))))))) (fun _ => rfl) rfl rfl ?_
                                rintro _ _ ⟨rfl, rfl⟩
                                first | refine op_wg (fun _ => rfl) (p_eql_nat (n := 1) (fun _ => rfl) (fun _ => rfl)) rfl rfl ?_ | refine op_wg (fun _ => rfl) (p_eql (fun _ => rfl) (fun _ => rfl)) rfl rfl ?_
                                refine op_w (p_pick_t (fun _ => rfl) (fun _ => rfl)) rfl rfl ?_
                                refine op_w (p_move (fun _ => rfl)) rfl rfl ?_
                                first | refine ops_split (t := 174) (fun _ => rfl) rfl (fun hc6 => ?_) (fun hc6 => ?_) | refine ops_split_bool (t := 174) (fun _ => rfl) rfl (fun hc6 => ?_) (fun hc6 => ?_)
                                ·
                                  refine op_wg (fun _ => rfl) (p_move (fun _ => rfl)) rfl rfl ?_
                                  refine op_e (w_callR (vs := [_]) (fun _ => rfl) Tryd.call13 (fun _ => rfl) rfl (records_nil) (by repeat (first | exact Pull.nil _ | (apply Pull.cons; (focus (repeat (first | exact One.here _ _ | apply One.there))))))) (fun _ => rfl) rfl rfl ?_
                                  rintro _ _ ⟨rfl, rfl⟩
                                  refine op_wg (fun _ => rfl) (p_len_slice Tryd.underlying22 (fun _ => rfl)) rfl rfl ?_
                                  first | refine op_wg (fun _ => rfl) (p_eql_nat (n := 0) (fun _ => rfl) (fun _ => rfl)) rfl rfl ?_ | refine op_wg (fun _ => rfl) (p_eql (fun _ => rfl) (fun _ => rfl)) rfl rfl ?_
                                  refine op_w (p_pick_t (fun _ => rfl) (fun _ => rfl)) rfl rfl ?_
                                  refine op_w (p_move (fun _ => rfl)) rfl rfl ?_
                                  first | refine ops_split (t := 180) (fun _ => rfl) rfl (fun hc7 => ?_) (fun hc7 => ?_) | refine ops_split_bool (t := 180) (fun _ => rfl) rfl (fun hc7 => ?_) (fun hc7 => ?_)
                                  ·
                                    refine op_wg (fun _ => rfl) (p_move (fun _ => rfl)) rfl rfl ?_
                                    refine op_e (w_callR (vs := [_]) (fun _ => rfl) Tryd.call12 (fun _ => rfl) rfl (room_nil) (by repeat (first | exact Pull.nil _ | (apply Pull.cons; (focus (repeat (first | exact One.here _ _ | apply One.there))))))) (fun _ => rfl) rfl rfl ?_
                                    rintro _ _ ⟨rfl, rfl⟩
                                    first | refine op_wg (fun _ => rfl) (p_eql_nat (n := 0) (fun _ => rfl) (fun _ => rfl)) rfl rfl ?_ | refine op_wg (fun _ => rfl) (p_eql (fun _ => rfl) (fun _ => rfl)) rfl rfl ?_
                                    refine op_w (p_pick_t (fun _ => rfl) (fun _ => rfl)) rfl rfl ?_
                                    refine op_w (p_assign (fun _ => rfl)) rfl rfl ?_
                                    refine ops_nil ?_
                                    refine nx_slots (env' := [(6, _)]) [6] rfl (fun _ => rfl) ?_
                                    refine nx_next ?_
                                    refine at_ret ?_
                                    refine nx_end1 (H' := _) rfl Tryd.results3 (fun _ => rfl) (by exact ⟨rfl, rfl⟩) ?hp_3
                                    case hp_3 => repeat (first | exact Sub.refl _ | exact Sub.nil _ | (apply Sub.cons; (focus (repeat (first | exact One.here _ _ | apply One.there)))) | refine Sub.drop _ ?_)
                                  ·
                                    exfalso; first | exact hc7 rfl | (cases hc7; done) | contradiction | omega | (simp at hc7; omega) | (simp_all; done) | (simp_all; omega)
                                ·
                                  exfalso; first | exact hc6 rfl | (cases hc6; done) | contradiction | omega | (simp at hc6; omega) | (simp_all; done) | (simp_all; omega)
                              ·
                                exfalso; first | exact hc5 rfl | (cases hc5; done) | contradiction | omega | (simp at hc5; omega) | (simp_all; done) | (simp_all; omega)
                            ·
                              exfalso; first | exact hc4 rfl | (cases hc4; done) | contradiction | omega | (simp at hc4; omega) | (simp_all; done) | (simp_all; omega)
                          ·
                            exfalso; first | exact hc3 rfl | (cases hc3; done) | contradiction | omega | (simp at hc3; omega) | (simp_all; done) | (simp_all; omega)
                        ·
                          exfalso; first | exact hc2 rfl | (cases hc2; done) | contradiction | omega | (simp at hc2; omega) | (simp_all; done) | (simp_all; omega)
                      ·
                        exfalso; first | exact hc1 rfl | (cases hc1; done) | contradiction | omega | (simp at hc1; omega) | (simp_all; done) | (simp_all; omega)
                    ·
                      exfalso; first | exact hb5 rfl | (cases hb5; done) | contradiction | omega | (simp at hb5; omega) | (simp_all; done) | (simp_all; omega)
                  ·
                    exfalso; first | exact hb4 rfl | (cases hb4; done) | contradiction | omega | (simp at hb4; omega) | (simp_all; done) | (simp_all; omega)
          ·
            exfalso; first | exact hq3 rfl | (cases hq3; done) | contradiction | omega | (simp at hq3; omega) | (simp_all; done) | (simp_all; omega)

theorem room_law01 (n : Int) (h1 : -9223372036854775808 ≤ n) (h2 : n ≤ 9223372036854775807) (v : Value) (ls : List (List UInt8)) (M : List Chunk) (hls : StrsIn M v ls) (more : Int) (m1 : -9223372036854775808 ≤ more) (m2 : more ≤ 9223372036854775807) (pa : Addr) (Tx Tg : TypeId) (zx zg : Nat × Nat)
    (hfit : ¬ (outL zero32 (fewL ls)).length ≤ sizeN n) (hsm : sizeN n < 0 + 35) :
    DoesR Tryd.prog 3 #[.int .i64 n, v, .int .i64 more] [[(4, .cells (kTab.map u32v).toArray Tg zg)], [(0, .cells #[.iface 155 (.pointer (some pa))] Tx zx)], M] (.bool true) := by
  have hsz0 : sizeN n = 1 + pickN n 1500 := rfl
  have hsz1 := pickN_lt n 1500 (by decide)
  have hpk := pickN_lt more 100 (by decide)
  have hml : maxLen = 9223372036854775807 := rfl
  obtain ⟨ks, hks⟩ : ∃ ks, ks = fewL ls := ⟨_, rfl⟩
  have hk6 : ks.length ≤ 6 := by rw [hks]; exact few_len ls
  have hshort : ∀ r ∈ ks, r.length ≤ 65536 := by rw [hks]; exact few_short
  have hk100 : ∀ r ∈ ks, r.length ≤ 100 := by rw [hks]; exact few_100
  rw [← hks] at hfit
  refine spec_enter Tryd.func3 rfl Tryd.ntmps3 rfl ?_
  intro u R
  refine at_slots (env' := [(0, _), (1, _), (2, _)]) [0, 1, 2] rfl (fun _ => rfl) ?_
  refine at_seq ?_
  refine at_region ?_
  refine op_w (p_assign (fun _ => rfl)) rfl rfl ?_
  refine ops_nil ?_
  refine nx_slots (env' := [(0, _), (1, _), (2, _)]) [0, 1, 2] rfl (fun _ => rfl) ?_
  refine nx_next ?_
  refine at_seq ?_
  refine at_region ?_
  refine op_e (w_callR (vs := []) (fun _ => rfl) Tryd.call5 (fun _ => rfl) rfl (sane_spec pa Tx Tg zx zg) (by repeat (first | exact Pull.nil _ | (apply Pull.cons; (focus (repeat (first | exact One.here _ _ | apply One.there))))))) (fun _ => rfl) rfl rfl ?_
  rintro _ _ ⟨rfl, rfl⟩
  refine op_w (p_assign (fun _ => rfl)) rfl rfl ?_
  refine ops_nil ?_
  refine nx_slots (env' := [(0, _), (1, _), (2, _), (7, _)]) [0, 1, 2, 7] rfl (fun _ => rfl) ?_
  refine nx_next ?_
  refine at_seq ?_
  refine at_region ?_
  refine op_w (p_move (fun _ => rfl)) rfl rfl ?_
  refine op_e (w_callR (vs := [_]) (fun _ => rfl) Tryd.call7 (fun _ => rfl) rfl (size_law n h1 h2) (by repeat (first | exact Pull.nil _ | (apply Pull.cons; (focus (repeat (first | exact One.here _ _ | apply One.there))))))) (fun _ => rfl) rfl rfl ?_
  rintro _ _ ⟨rfl, rfl⟩
  refine ops_eff (fun _ => rfl) (fits_of rfl) rfl (w_call (vs := [_]) (fun _ => rfl) Tryd.call6 (fun _ => rfl) rfl (new_state (sizeN n) (by omega) (by omega)) (by repeat (first | exact Pull.nil _ | (apply Pull.cons; (focus (repeat (first | exact One.here _ _ | apply One.there))))))) ?_ no_pan
  rintro _ _ ⟨_, ⟨dp, sd0, rfl, rfl, hR0⟩, rfl⟩
  have hD0 := JD.new (sizeN n) (by omega)
  have hv0 : (DiskS.new (sizeN n)).vi.length = sizeN n := by simp [DiskS.new]
  refine op_w (p_move (fun _ => rfl)) rfl rfl ?_
  refine op_w (p_extract (fun _ => rfl) rfl) rfl rfl ?_
  refine op_w (p_extract (fun _ => rfl) rfl) rfl rfl ?_
  refine op_w (p_assign (fun _ => rfl)) rfl rfl ?_
  refine op_w (p_assign (fun _ => rfl)) rfl rfl ?_
  refine ops_nil ?_
  refine nx_slots (env' := [(0, _), (1, _), (2, _), (7, _), (8, _)]) [0, 1, 2, 7, 8] rfl (fun _ => rfl) ?_
  refine nx_next ?_
  refine at_seq ?_
  refine at_region ?_
  refine op_w (p_move (fun _ => rfl)) rfl rfl ?_
  refine ops_eff (fun _ => rfl) (fits_of rfl) rfl (w_call (vs := [_]) (fun _ => rfl) Tryd.call8 (fun _ => rfl) rfl (jr_open _ _ dp sd0 pa Tx Tg zx zg hD0 hR0) (by repeat (first | exact Pull.nil _ | (apply Pull.cons; (focus (repeat (first | exact One.here _ _ | apply One.there))))))) ?_ no_pan
  rintro _ _ ⟨_, ⟨jp, sj0, rfl, hJ0, rfl⟩, rfl⟩
  refine op_w (p_move (fun _ => rfl)) rfl rfl ?_
  refine op_w (p_extract (fun _ => rfl) rfl) rfl rfl ?_
  refine op_w (p_extract (fun _ => rfl) rfl) rfl rfl ?_
  refine op_w (p_assign (fun _ => rfl)) rfl rfl ?_
  refine op_w (p_assign (fun _ => rfl)) rfl rfl ?_
  refine ops_nil ?_
  refine nx_slots (env' := [(0, _), (1, _), (2, _), (7, _), (8, _), (10, _), (11, _)]) [0, 1, 2, 7, 8, 10, 11] rfl (fun _ => rfl) ?_
  refine nx_next ?_
  refine at_seq ?_
  refine at_seq ?_
  refine at_region ?_
  refine op_w (p_move (fun _ => rfl)) rfl rfl ?_
  first | refine op_w (p_neq_nat (n := 0) (fun _ => rfl) (fun _ => rfl)) rfl rfl ?_ | refine op_w (p_neq (fun _ => rfl) (fun _ => rfl)) rfl rfl ?_
  refine ops_nil ?_
  refine nx_slots (env' := [(0, _), (1, _), (2, _), (7, _), (8, _), (10, _), (39, _)]) [0, 1, 2, 7, 8, 10, 39] rfl (fun _ => rfl) ?_
  refine nx_next ?_
  first | refine at_if (fun _ => rfl) (fun hg1 => ?_) (fun hg1 => ?_) | refine at_if_bool (fun _ => rfl) (fun hg1 => ?_) (fun hg1 => ?_)
  ·
    exfalso; first | exact hg1 rfl | (cases hg1; done) | contradiction | omega | (simp at hg1; omega) | (simp_all; done) | (simp_all; omega)
  ·
    refine at_skip ?_
    refine nx_next ?_
    refine at_seq ?_
    refine at_region ?_
    refine op_w (p_move (fun _ => rfl)) rfl rfl ?_
    refine ops_eff (fun _ => rfl) (fits_of rfl) rfl (w_call (vs := [_]) (fun _ => rfl) Tryd.call9 (fun _ => rfl) rfl (few_mem hls) (by repeat (first | exact Pull.nil _ | (apply Pull.cons; (focus (repeat (first | exact One.here _ _ | apply One.there))))))) ?_ no_pan
    rintro _ _ ⟨_, ⟨sf, hf, rfl⟩, rfl⟩
    rw [← hks] at hf
    obtain ⟨gl, cl, rfl⟩ := hf.form
    refine op_w (p_assign (fun _ => rfl)) rfl rfl ?_
    refine ops_nil ?_
    refine nx_slots (env' := [(0, _), (1, _), (2, _), (7, _), (8, _), (10, _)]) [0, 1, 2, 7, 8, 10] rfl (fun _ => rfl) ?_
    refine nx_next ?_
    refine at_seq ?_
    refine at_region ?_
    refine op_w (p_assign (fun _ => rfl)) rfl rfl ?_
    refine ops_nil ?_
    refine nx_slots (env' := [(0, _), (1, _), (2, _), (7, _), (8, _), (10, _), (12, _)]) [0, 1, 2, 7, 8, 10, 12] rfl (fun _ => rfl) ?_
    refine nx_next ?_
    refine at_seq ?_
    refine at_seq ?_
    refine at_region ?_
    refine op_w (p_assign (fun _ => rfl)) rfl rfl ?_
    refine ops_nil ?_
    refine nx_slots (env' := [(0, _), (1, _), (2, _), (7, _), (8, _), (10, _), (12, _), (13, _)]) [0, 1, 2, 7, 8, 10, 12, 13] rfl (fun _ => rfl) ?_
    refine nx_next ?_
    refine at_block ?_
    refine at_slots (env' := [(12, _), (13, _), (0, _), (1, _), (2, _), (7, _), (8, _), (10, _)]) [12, 13, 0, 1, 2, 7, 8, 10] rfl (fun _ => rfl) ?_
    refine at_loopB (e0 := [(12, _), (13, _)]) (H0 := _) (n := _) (fun m e H => ∃ (i : Nat), m = ks.length - i ∧ (i ≤ ks.length ∧ (outL zero32 (ks.take i)).length ≤ 200 * i) ∧ e = [(12, .int .i64 ((outL zero32 (ks.take i)).length : Int)), (13, .int .i64 (i : Int))] ∧ H = []) (by exact ⟨0, rfl, ⟨Nat.zero_le _, Nat.le_refl _⟩, rfl, rfl⟩) (by repeat (first | exact Pull.nil _ | (apply Pull.cons; (focus (repeat (first | exact One.here _ _ | apply One.there)))))) ?_
    rintro _ _ _ ⟨i, rfl, ⟨hi, hsum⟩, rfl, rfl⟩
    refine at_seq ?_
    refine at_seq ?_
    refine at_region ?_
    refine op_w (p_move (fun _ => rfl)) rfl rfl ?_
    refine op_w (p_move (fun _ => rfl)) rfl rfl ?_
    refine op_w (p_len_slice Tryd.underlying22 (fun _ => rfl)) rfl rfl ?_
    first | refine op_w (p_lss_nat (fun _ => rfl) (fun _ => rfl)) rfl rfl ?_ | refine op_w (p_lss (fun _ => rfl) (fun _ => rfl)) rfl rfl ?_
    refine ops_nil ?_
    refine nx_slots (env' := [(0, _), (1, _), (2, _), (7, _), (8, _), (10, _), (12, _), (13, _), (45, _)]) [0, 1, 2, 7, 8, 10, 12, 13, 45] rfl (fun _ => rfl) ?_
    refine nx_next ?_
    first | refine at_if (fun _ => rfl) (fun hlt => ?_) (fun hlt => ?_) | refine at_if_bool (fun _ => rfl) (fun hlt => ?_) (fun hlt => ?_)
    ·
      rw [List.length_map] at hlt
      refine at_skip ?_
      refine nx_next ?_
      refine at_seq ?_
      refine at_block ?_
      refine at_seq ?_
      obtain ⟨x, hx⟩ : ∃ x, ks[i]? = some x := ⟨_, List.getElem?_eq_getElem hlt⟩
      have hx100 := hk100 x (List.mem_of_getElem? hx)
      obtain ⟨gk, ck, curk, zk, hvk, rfl, hink⟩ := row_in hf (by rw [List.length_map]; omega)
      injection hvk with e1 e2 e3
      subst e1 e3
      have hcell := cellAt hink hx
      have hsn := outT_snoc zero32 ks i x hx (by omega)
      have hes := str_size (encS x)
      have hel : (encS x).length ≤ 110 := by
        have := encI_len x.length (by omega) (by omega)
        unfold encS; rw [List.length_append]; omega
      refine at_region ?_
      refine op_w (p_move (fun _ => rfl)) rfl rfl ?_
      refine op_w (p_move (fun _ => rfl)) rfl rfl ?_
      first | (refine op_w (p_indexAddr_nat0 Tryd.underlying22 Tryd.sizeOf9 (fun _ => rfl) (fun _ => rfl) ?_) rfl rfl ?_; (focus (first | omega | (rw [List.length_map]; omega)))) | (refine op_w (p_indexAddr_nat1 Tryd.underlying22 Tryd.sizeOf9 (fun _ => rfl) (fun _ => rfl) ?_) rfl rfl ?_; (focus (first | omega | (rw [List.length_map]; omega))))
      refine op_r (by repeat (first | exact Has.here _ | apply Has.there)) (p_load Tryd.isAgg9 (fun _ => rfl) (by first | exact hcell | (rw [Nat.mul_one]; exact hcell) | simpa using hcell)) rfl rfl ?_
      refine op_e (w_callR (vs := [_]) (fun _ => rfl) Tryd.call10 (fun _ => rfl) rfl (rputString_spec x (by omega)) (by repeat (first | exact Pull.nil _ | (apply Pull.cons; (focus (repeat (first | exact One.here _ _ | apply One.there))))))) (fun _ => rfl) rfl rfl ?_
      rintro _ _ ⟨rfl, rfl⟩
      refine op_w (p_move (fun _ => rfl)) rfl rfl ?_
      refine op_w (p_extract (fun _ => rfl) rfl) rfl rfl ?_
      refine op_w (p_extract (fun _ => rfl) rfl) rfl rfl ?_
      refine op_w (p_assign (fun _ => rfl)) rfl rfl ?_
      refine op_w (p_assign (fun _ => rfl)) rfl rfl ?_
      refine ops_nil ?_
      refine nx_slots (env' := [(0, _), (1, _), (2, _), (7, _), (8, _), (10, _), (12, _), (13, _), (14, _)]) [0, 1, 2, 7, 8, 10, 12, 13, 14] rfl (fun _ => rfl) ?_
      refine nx_next ?_
      refine at_region ?_
      refine op_w (p_move (fun _ => rfl)) rfl rfl ?_
      first | (refine op_w (p_add_nat (n := 33) (fun _ => rfl) (fun _ => rfl) ?_) rfl rfl ?_; (focus (omega))) | (refine op_w (p_add (fun _ => rfl) (fun _ => rfl) (IntWalk.i64_in _ ?_)) rfl rfl ?_; (focus (omega)))
      refine op_w (p_move (fun _ => rfl)) rfl rfl ?_
      refine op_w (p_len_str Tryd.underlying9 (fun _ => rfl)) rfl rfl ?_
      first | (refine op_w (p_add_nat (fun _ => rfl) (fun _ => rfl) ?_) rfl rfl ?_; (focus (omega))) | (refine op_w (p_add (fun _ => rfl) (fun _ => rfl) (IntWalk.i64_in _ ?_)) rfl rfl ?_; (focus (omega)))
      refine op_w (p_assign (fun _ => rfl)) rfl rfl ?_
      refine ops_nil ?_
      refine nx_slots (env' := [(0, _), (1, _), (2, _), (7, _), (8, _), (10, _), (12, _), (13, _)]) [0, 1, 2, 7, 8, 10, 12, 13] rfl (fun _ => rfl) ?_
      refine nx_block_normal ?_
      refine nx_next ?_
      refine at_region ?_
      refine op_w (p_move (fun _ => rfl)) rfl rfl ?_
      first | (refine op_w (p_add_nat (n := 1) (fun _ => rfl) (fun _ => rfl) ?_) rfl rfl ?_; (focus (omega))) | (refine op_w (p_add (fun _ => rfl) (fun _ => rfl) (IntWalk.i64_in _ ?_)) rfl rfl ?_; (focus (omega)))
      refine op_w (p_assign (fun _ => rfl)) rfl rfl ?_
      refine ops_nil ?_
      refine nx_slots (env' := [(0, _), (1, _), (2, _), (7, _), (8, _), (10, _), (12, _), (13, _)]) [0, 1, 2, 7, 8, 10, 12, 13] rfl (fun _ => rfl) ?_
      refine nx_slots (env' := [(12, _), (13, _), (0, _), (1, _), (2, _), (7, _), (8, _), (10, _)]) [12, 13, 0, 1, 2, 7, 8, 10] rfl (fun _ => rfl) ?_
      refine nx_againB (e' := [(12, _), (13, _)]) (m := _) (H' := _) (by exact ⟨i + 1, rfl, ⟨by omega, by rw [hsn]; omega⟩, by rw [hsn, hes], rfl⟩) ?hm_2 ?hp_2
      case hm_2 => omega
      case hp_2 => repeat (first | exact Sub.refl _ | exact Sub.nil _ | (apply Sub.cons; (focus (repeat (first | exact One.here _ _ | apply One.there)))) | refine Sub.drop _ ?_)
    ·
      rw [List.length_map] at hlt
      rw [List.take_of_length_le (show ks.length ≤ i by omega)]
      refine at_exit ?_
      refine nx_thru (by intro h; cases h) ?_
      refine nx_thru (by intro h; cases h) ?_
      refine nx_block_exit ?_
      refine nx_next ?_
      refine at_seq ?_
      refine at_region ?_
      refine op_w (p_move (fun _ => rfl)) rfl rfl ?_
      refine op_w (p_move (fun _ => rfl)) rfl rfl ?_
      refine ops_eff (fun _ => rfl) (fits_of rfl) rfl (w_call (vs := [_, _]) (fun _ => rfl) Tryd.call11 (fun _ => rfl) rfl (jd_append _ _ jp dp sj0 sf sd0 _ ks Tg zg hD0 hJ0 hR0 hf hshort (by omega)) (by repeat (first | exact Pull.nil _ | (apply Pull.cons; (focus (repeat (first | exact One.here _ _ | apply One.there))))))) ?_ no_pan
      rintro _ _ ⟨_, ⟨e1, j1, d1, sj1, sd1, rfl, hD1, hv1, ho1, hJ1, hR1, rfl⟩, rfl⟩
      have hx1 : e1 = 231 ∧ j1.sz = 0 ∧ d1.vi.length = sizeN n := by
        rcases ho1 with ⟨_, h1, h2, h3⟩ | ⟨h, _⟩
        · exact ⟨h1, by rw [h2], by rw [h3]; exact hv0⟩
        · exfalso; simp only at h; omega
      obtain ⟨rfl, hz1, hv1⟩ := hx1
      refine op_w (p_assign (fun _ => rfl)) rfl rfl ?_
      refine ops_nil ?_
      refine nx_slots (env' := [(0, _), (1, _), (2, _), (7, _), (8, _), (10, _), (12, _), (16, _)]) [0, 1, 2, 7, 8, 10, 12, 16] rfl (fun _ => rfl) ?_
      refine nx_next ?_
      refine at_seq ?_
      refine at_region ?_
      refine op_w (p_move (fun _ => rfl)) rfl rfl ?_
      refine op_w (p_move (fun _ => rfl)) rfl rfl ?_
      refine op_e (w_callR (vs := [_]) (fun _ => rfl) Tryd.call7 (fun _ => rfl) rfl (size_law n h1 h2) (by repeat (first | exact Pull.nil _ | (apply Pull.cons; (focus (repeat (first | exact One.here _ _ | apply One.there))))))) (fun _ => rfl) rfl rfl ?_
      rintro _ _ ⟨rfl, rfl⟩
      first | refine op_w (p_leq_nat (fun _ => rfl) (fun _ => rfl)) rfl rfl ?_ | refine op_w (p_leq (fun _ => rfl) (fun _ => rfl)) rfl rfl ?_
      refine op_w (p_assign (fun _ => rfl)) rfl rfl ?_
      refine ops_nil ?_
      refine nx_slots (env' := [(0, _), (1, _), (2, _), (7, _), (8, _), (10, _), (12, _), (16, _), (17, _)]) [0, 1, 2, 7, 8, 10, 12, 16, 17] rfl (fun _ => rfl) ?_
      refine nx_next ?_
      refine at_seq ?_
      refine at_seq ?_
      refine at_region ?_
      refine op_w (p_move (fun _ => rfl)) rfl rfl ?_
      refine op_w (p_move (fun _ => rfl)) rfl rfl ?_
      first | refine op_w (p_eql_nat (n := 0) (fun _ => rfl) (fun _ => rfl)) rfl rfl ?_ | refine op_w (p_eql (fun _ => rfl) (fun _ => rfl)) rfl rfl ?_
      refine op_w (p_neq_bool Tryd.underlying4 (fun _ => rfl) (fun _ => rfl)) rfl rfl ?_
      refine op_w (p_move (fun _ => rfl)) rfl rfl ?_
      first | refine ops_split (t := 72) (fun _ => rfl) rfl (fun hq1 => ?_) (fun hq1 => ?_) | refine ops_split_bool (t := 72) (fun _ => rfl) rfl (fun hq1 => ?_) (fun hq1 => ?_)
      ·
        exfalso; first | exact hq1 rfl | (cases hq1; done) | contradiction | omega | (simp at hq1; omega) | (simp_all; done) | (simp_all; omega)
      ·
        refine op_wg (fun _ => rfl) (p_move (fun _ => rfl)) rfl rfl ?_
        first | refine op_wg (fun _ => rfl) (p_not_dec (fun _ => rfl)) rfl rfl ?_ | refine op_wg (fun _ => rfl) (p_not (fun _ => rfl)) rfl rfl ?_
        refine op_wg (fun _ => rfl) (p_move (fun _ => rfl)) rfl rfl ?_
        first | refine ops_split (t := 75) (fun _ => rfl) rfl (fun hq2 => ?_) (fun hq2 => ?_) | refine ops_split_bool (t := 75) (fun _ => rfl) rfl (fun hq2 => ?_) (fun hq2 => ?_)
        ·
          refine op_wg (fun _ => rfl) (p_move (fun _ => rfl)) rfl rfl ?_
          first | refine op_wg (fun _ => rfl) (p_neq_nat (n := 231) (fun _ => rfl) (fun _ => rfl)) rfl rfl ?_ | refine op_wg (fun _ => rfl) (p_neq (fun _ => rfl) (fun _ => rfl)) rfl rfl ?_
          refine op_wg (fun _ => rfl) (p_pick_t (fun _ => rfl) (fun _ => rfl)) rfl rfl ?_
          refine op_w (p_pick_f (fun _ => rfl) (fun _ => rfl)) rfl rfl ?_
          refine op_w (p_move (fun _ => rfl)) rfl rfl ?_
          first | refine ops_split (t := 80) (fun _ => rfl) rfl (fun hq3 => ?_) (fun hq3 => ?_) | refine ops_split_bool (t := 80) (fun _ => rfl) rfl (fun hq3 => ?_) (fun hq3 => ?_)
          ·
            exfalso; first | exact hq3 rfl | (cases hq3; done) | contradiction | omega | (simp at hq3; omega) | (simp_all; done) | (simp_all; omega)
          ·
            refine op_wg (fun _ => rfl) (p_move (fun _ => rfl)) rfl rfl ?_
            refine op_wg (fun _ => rfl) (p_move (fun _ => rfl)) rfl rfl ?_
            first | refine ops_split (t := 82) (fun _ => rfl) rfl (fun hq4 => ?_) (fun hq4 => ?_) | refine ops_split_bool (t := 82) (fun _ => rfl) rfl (fun hq4 => ?_) (fun hq4 => ?_)
            ·
              exfalso; first | exact hq4 rfl | (cases hq4; done) | contradiction | omega | (simp at hq4; omega) | (simp_all; done) | (simp_all; omega)
            ·
              refine op_skip (fun _ => rfl) rfl ?_
              refine op_skip (fun _ => rfl) rfl ?_
              refine op_skip (fun _ => rfl) rfl ?_
              refine op_skip (fun _ => rfl) rfl ?_
              refine op_skip (fun _ => rfl) rfl ?_
              refine op_skip (fun _ => rfl) rfl ?_
              refine op_skip (fun _ => rfl) rfl ?_
              refine op_wg (fun _ => rfl) (p_pick_f (fun _ => rfl) (fun _ => rfl)) rfl rfl ?_
              refine op_w (p_pick_f (fun _ => rfl) (fun _ => rfl)) rfl rfl ?_
              refine op_w (p_move (fun _ => rfl)) rfl rfl ?_
              refine op_wg (fun _ => rfl) (p_move (fun _ => rfl)) rfl rfl ?_
              first | refine op_wg (fun _ => rfl) (p_not_dec (fun _ => rfl)) rfl rfl ?_ | refine op_wg (fun _ => rfl) (p_not (fun _ => rfl)) rfl rfl ?_
              refine op_wg (fun _ => rfl) (p_move (fun _ => rfl)) rfl rfl ?_
              first | refine ops_split (t := 95) (fun _ => rfl) rfl (fun hq5 => ?_) (fun hq5 => ?_) | refine ops_split_bool (t := 95) (fun _ => rfl) rfl (fun hq5 => ?_) (fun hq5 => ?_)
              ·
                refine op_wg (fun _ => rfl) (p_move (fun _ => rfl)) rfl rfl ?_
                refine op_e (w_callR (vs := [_]) (fun _ => rfl) Tryd.call12 (fun _ => rfl) rfl (jr_room _ _ jp dp sj1 sd1 hJ1 hR1 hD1.fit) (by repeat (first | exact Pull.nil _ | (apply Pull.cons; (focus (repeat (first | exact One.here _ _ | apply One.there))))))) (fun _ => rfl) rfl rfl ?_
                rintro _ _ ⟨rfl, rfl⟩
                refine op_wg (fun _ => rfl) (p_move (fun _ => rfl)) rfl rfl ?_
                refine op_e (w_callR (vs := [_]) (fun _ => rfl) Tryd.call7 (fun _ => rfl) rfl (size_law n h1 h2) (by repeat (first | exact Pull.nil _ | (apply Pull.cons; (focus (repeat (first | exact One.here _ _ | apply One.there))))))) (fun _ => rfl) rfl rfl ?_
                rintro _ _ ⟨rfl, rfl⟩
                first | refine op_wg (fun _ => rfl) (p_neq_nat (fun _ => rfl) (fun _ => rfl)) rfl rfl ?_ | refine op_wg (fun _ => rfl) (p_neq (fun _ => rfl) (fun _ => rfl)) rfl rfl ?_
                refine op_wg (fun _ => rfl) (p_pick_t (fun _ => rfl) (fun _ => rfl)) rfl rfl ?_
                refine op_w (p_pick_f (fun _ => rfl) (fun _ => rfl)) rfl rfl ?_
                refine ops_nil ?_
                refine nx_slots (env' := [(1, _), (2, _), (7, _), (8, _), (10, _), (102, _)]) [1, 2, 7, 8, 10, 102] rfl (fun _ => rfl) ?_
                refine nx_next ?_
                first | refine at_if (fun _ => rfl) (fun hq9 => ?_) (fun hq9 => ?_) | refine at_if_bool (fun _ => rfl) (fun hq9 => ?_) (fun hq9 => ?_)
                ·
                  exfalso; first | exact hq9 rfl | (cases hq9; done) | contradiction | omega | (simp at hq9; omega) | (simp_all; done) | (simp_all; omega)
                ·
                  refine at_skip ?_
                  refine nx_next ?_
                  refine at_seq ?_
                  refine at_region ?_
                  refine op_w (p_move (fun _ => rfl)) rfl rfl ?_
                  refine ops_eff (fun _ => rfl) (fits_of rfl) rfl (w_call (vs := [_]) (fun _ => rfl) Tryd.call13 (fun _ => rfl) rfl (jr_records _ jp dp sj1 hJ1) (by repeat (first | exact Pull.nil _ | (apply Pull.cons; (focus (repeat (first | exact One.here _ _ | apply One.there))))))) ?_ no_pan
                  rintro _ _ ⟨_, ⟨sw, hw, rfl⟩, rfl⟩
                  refine op_w (p_assign (fun _ => rfl)) rfl rfl ?_
                  refine ops_nil ?_
                  refine nx_slots (env' := [(1, _), (2, _), (7, _), (8, _), (10, _), (18, _)]) [1, 2, 7, 8, 10, 18] rfl (fun _ => rfl) ?_
                  refine nx_next ?_
                  refine at_seq ?_
                  refine at_region ?_
                  refine op_w (p_move (fun _ => rfl)) rfl rfl ?_
                  refine op_e (w_buildSlice0 Tryd.underlying22 Tryd.sizeOf9) (fun _ => rfl) rfl rfl ?_
                  rintro _ _ ⟨ge, rfl, rfl⟩
                  refine op_w (p_move (fun _ => rfl)) rfl rfl ?_
                  refine op_e (w_append_row (by_ := 16) Tryd.underlying22 (rfl : Tryd.prog.info? 9 = some Tryd.t9) rfl rfl rfl rfl (fun _ => rfl) (row_new _ ge [] 0 rfl (Nat.zero_le _)) (fun _ => rfl) (hf) (by repeat (first | exact One.here _ _ | apply One.there)) (by repeat (first | exact One.here _ _ | apply One.there)) (by simp [Value.oneCell', strV]) (by (simp only [List.length_map, List.length_nil]; omega)) (by (simp only [List.length_map, List.length_nil]; omega))) (fun _ => rfl) rfl rfl ?_
                  rintro _ _ ⟨sp, hrp, rfl⟩
                  obtain ⟨gp, cp, rfl⟩ := hrp.form
                  refine op_w (p_move (fun _ => rfl)) rfl rfl ?_
                  refine op_e (w_callR (vs := [_, _]) (fun _ => rfl) Tryd.call14 (fun _ => rfl) rfl (pick_spec more 100 (by decide) (by decide) m1 m2) (by repeat (first | exact Pull.nil _ | (apply Pull.cons; (focus (repeat (first | exact One.here _ _ | apply One.there))))))) (fun _ => rfl) rfl rfl ?_
                  rintro _ _ ⟨rfl, rfl⟩
                  first | (refine op_w (p_add_nat (m := 65537) (fun _ => rfl) (fun _ => rfl) ?_) rfl rfl ?_; (focus (omega))) | (refine op_w (p_add (fun _ => rfl) (fun _ => rfl) (IntWalk.i64_in _ ?_)) rfl rfl ?_; (focus (omega)))
                  refine op_e (w_makeSlice (by_ := 1) Tryd.underlying38 (rfl : Tryd.prog.info? 5 = some Tryd.t5) rfl rfl rfl rfl (fun _ => rfl) (fun _ => rfl) ?_ ?_ ?_) (fun _ => rfl) rfl rfl ?_
                  (focus (omega))
                  (focus (omega))
                  (focus (omega))
                  rintro _ _ ⟨gm, rfl, rfl⟩
                  refine op_r (by repeat (first | exact Has.here _ | apply Has.there)) (p_conv_bytes_str Tryd.underlying38 Tryd.underlying5 Tryd.underlying9 (fun _ => rfl) (by exact (show (_ = List.map u8v (List.replicate (65537 + pickN more 100) 0)) ∧ _ from ⟨by simp [u8v], by simp⟩))) rfl rfl ?_
                  refine op_e (w_buildSlice (vs := [_]) (cs := [_]) Tryd.underlying22 Tryd.sizeOf9 Tryd.zeroValue9 (fun _ => rfl) rfl rfl rfl rfl rfl) (fun _ => rfl) rfl rfl ?_
                  rintro _ _ ⟨gb, rfl, rfl⟩
                  refine op_e (w_append_row (by_ := 16) Tryd.underlying22 (rfl : Tryd.prog.info? 9 = some Tryd.t9) rfl rfl rfl rfl (fun _ => rfl) (hrp) (fun _ => rfl) (row_new _ gb [strV (List.replicate (65537 + pickN more 100) 0)] 1 rfl (by decide)) (by repeat (first | exact One.here _ _ | apply One.there)) (by repeat (first | exact One.here _ _ | apply One.there)) (by simp [Value.oneCell', strV]) (by (simp only [List.length_map, List.length_append, List.length_cons, List.length_nil]; omega)) (by (simp only [List.length_map, List.length_append, List.length_cons, List.length_nil]; omega))) (fun _ => rfl) rfl rfl ?_
                  rintro _ _ ⟨sq, hrq, rfl⟩
                  have hq9 : [] ++ List.map strV ks ++ [strV (List.replicate (65537 + pickN more 100) 0)] = (ks ++ [List.replicate (65537 + pickN more 100) 0]).map strV := by simp
                  rw [hq9] at hrq
                  obtain ⟨gq, cq, rfl⟩ := hrq.form
                  refine op_e (w_callR (vs := [_, _]) (fun _ => rfl) Tryd.call11 (fun _ => rfl) rfl (jr_long _ jp dp sj1 sq _ (ks ++ [List.replicate (65537 + pickN more 100) 0]) hJ1 hD1.br hrq (by simp; omega) (by simp [isLong]; right; omega)) (by repeat (first | exact Pull.nil _ | (apply Pull.cons; (focus (repeat (first | exact One.here _ _ | apply One.there))))))) (fun _ => rfl) rfl rfl ?_
                  rintro _ _ ⟨rfl, rfl⟩
                  refine op_w (p_assign (fun _ => rfl)) rfl rfl ?_
                  refine ops_nil ?_
                  refine nx_slots (env' := [(1, _), (7, _), (8, _), (10, _), (18, _), (19, _)]) [1, 7, 8, 10, 18, 19] rfl (fun _ => rfl) ?_
                  refine nx_next ?_
                  refine at_seq ?_
                  refine at_region ?_
                  refine op_w (p_move (fun _ => rfl)) rfl rfl ?_
                  refine op_e (w_callR (vs := [_, _]) (fun _ => rfl) Tryd.call11 (fun _ => rfl) rfl (jr_none _ _ jp dp sj1 sd1 hJ1 hR1 hD1.br hD1.fit) (by repeat (first | exact Pull.nil _ | (apply Pull.cons; (focus (repeat (first | exact One.here _ _ | apply One.there))))))) (fun _ => rfl) rfl rfl ?_
                  rintro _ _ ⟨rfl, rfl⟩
                  refine op_w (p_assign (fun _ => rfl)) rfl rfl ?_
                  refine ops_nil ?_
                  refine nx_slots (env' := [(1, _), (7, _), (8, _), (10, _), (18, _), (19, _), (20, _)]) [1, 7, 8, 10, 18, 19, 20] rfl (fun _ => rfl) ?_
                  refine nx_next ?_
                  refine at_seq ?_
                  refine at_region ?_
                  refine op_w (p_move (fun _ => rfl)) rfl rfl ?_
                  refine ops_eff (fun _ => rfl) (fits_of rfl) rfl (w_call (vs := [_, _]) (fun _ => rfl) Tryd.call15 (fun _ => rfl) rfl (disk_cut d1 dp sd1 hR1 hD1.off 0 (by decide)) (by repeat (first | exact Pull.nil _ | (apply Pull.cons; (focus (repeat (first | exact One.here _ _ | apply One.there))))))) ?_ no_pan
                  rintro _ _ ⟨_, ⟨sc, rfl, rfl, hRc⟩, rfl⟩
                  obtain ⟨dc, hdc⟩ : ∃ dc, dc = (d1.cut 0).2 := ⟨_, rfl⟩
                  have hcv : dc.vi = d1.vi := by rw [hdc]; unfold DiskS.cut; rw [hD1.off]; rfl
                  have hco : dc.off = true := by rw [hdc]; unfold DiskS.cut; rw [hD1.off]; rfl
                  have hcp : dc.pend = [] := by rw [hdc]; unfold DiskS.cut; rw [hD1.off]; exact hD1.pend
                  rw [← hdc] at hRc
                  have hcl : dc.vi.length = d1.vi.length := by rw [hcv]
                  have hfit1 := hD1.fit
                  have hxl := outX_len j1.h
                  refine ops_nil ?_
                  refine nx_slots (env' := [(1, _), (7, _), (10, _), (18, _), (19, _), (20, _)]) [1, 7, 10, 18, 19, 20] rfl (fun _ => rfl) ?_
                  refine nx_next ?_
                  refine at_seq ?_
                  refine at_region ?_
                  refine op_w (p_move (fun _ => rfl)) rfl rfl ?_
                  refine op_e (w_buildSlice (vs := [_]) (cs := [_]) Tryd.underlying22 Tryd.sizeOf9 Tryd.zeroValue9 (fun _ => rfl) rfl rfl rfl rfl rfl) (fun _ => rfl) rfl rfl ?_
                  rintro _ _ ⟨gx, rfl, rfl⟩
                  refine ops_eff (fun _ => rfl) (fits_of rfl) rfl (w_call (vs := [_, _]) (fun _ => rfl) Tryd.call11 (fun _ => rfl) rfl (jr_full j1 dc jp dp sj1 _ sc _ [[120]] Tg zg hJ1 hRc (row_new _ gx ([[120]].map strV) 1 rfl (by decide)) hD1.br (by omega) (by rw [hcp]; simp) (by decide) (by decide) (by rw [hxl]; omega)) (by repeat (first | exact Pull.nil _ | (apply Pull.cons; (focus (repeat (first | exact One.here _ _ | apply One.there))))))) ?_ no_pan
                  rintro _ _ ⟨_, ⟨sj2, sd2, rfl, hJ2, hR2, rfl⟩, rfl⟩
                  refine op_w (p_assign (fun _ => rfl)) rfl rfl ?_
                  refine ops_nil ?_
                  refine nx_slots (env' := [(1, _), (7, _), (10, _), (18, _), (19, _), (20, _), (21, _)]) [1, 7, 10, 18, 19, 20, 21] rfl (fun _ => rfl) ?_
                  refine nx_next ?_
                  refine at_seq ?_
                  refine at_region ?_
                  refine op_w (p_move (fun _ => rfl)) rfl rfl ?_
                  refine op_e (w_callR (vs := [_]) (fun _ => rfl) Tryd.call12 (fun _ => rfl) rfl (jr_room j1 dc jp dp sj2 sd2 hJ2 hR2 (by omega)) (by repeat (first | exact Pull.nil _ | (apply Pull.cons; (focus (repeat (first | exact One.here _ _ | apply One.there))))))) (fun _ => rfl) rfl rfl ?_
                  rintro _ _ ⟨rfl, rfl⟩
                  first | refine op_w (p_lss_nat (n := 35) (fun _ => rfl) (fun _ => rfl)) rfl rfl ?_ | refine op_w (p_lss (fun _ => rfl) (fun _ => rfl)) rfl rfl ?_
                  refine op_w (p_assign (fun _ => rfl)) rfl rfl ?_
                  refine ops_nil ?_
                  refine nx_slots (env' := [(1, _), (7, _), (10, _), (18, _), (19, _), (20, _), (21, _), (22, _)]) [1, 7, 10, 18, 19, 20, 21, 22] rfl (fun _ => rfl) ?_
                  refine nx_next ?_
                  refine at_seq ?_
                  refine at_region ?_
                  refine op_w (p_move (fun _ => rfl)) rfl rfl ?_
                  refine op_e (w_callR (vs := [_, _]) (fun _ => rfl) Tryd.call11 (fun _ => rfl) rfl (jr_none j1 dc jp dp sj2 sd2 hJ2 hR2 hD1.br (by omega)) (by repeat (first | exact Pull.nil _ | (apply Pull.cons; (focus (repeat (first | exact One.here _ _ | apply One.there))))))) (fun _ => rfl) rfl rfl ?_
                  rintro _ _ ⟨rfl, rfl⟩
                  refine op_w (p_assign (fun _ => rfl)) rfl rfl ?_
                  refine ops_nil ?_
                  refine nx_slots (env' := [(1, _), (7, _), (10, _), (18, _), (19, _), (20, _), (21, _), (22, _), (23, _)]) [1, 7, 10, 18, 19, 20, 21, 22, 23] rfl (fun _ => rfl) ?_
                  refine nx_next ?_
                  refine at_seq ?_
                  refine at_region ?_
                  refine op_w (p_assign (fun _ => rfl)) rfl rfl ?_
                  refine ops_nil ?_
                  refine nx_slots (env' := [(1, _), (7, _), (10, _), (18, _), (19, _), (20, _), (21, _), (22, _), (23, _), (24, _)]) [1, 7, 10, 18, 19, 20, 21, 22, 23, 24] rfl (fun _ => rfl) ?_
                  refine nx_next ?_
                  refine at_seq ?_
                  refine at_region ?_
                  refine op_w (p_move (fun _ => rfl)) rfl rfl ?_
                  refine op_w (p_move (fun _ => rfl)) rfl rfl ?_
                  first | refine ops_split (t := 130) (fun _ => rfl) rfl (fun hb1 => ?_) (fun hb1 => ?_) | refine ops_split_bool (t := 130) (fun _ => rfl) rfl (fun hb1 => ?_) (fun hb1 => ?_)
                  ·
                    refine op_wg (fun _ => rfl) (p_move (fun _ => rfl)) rfl rfl ?_
                    first | refine op_wg (fun _ => rfl) (p_eql_nat (n := 231) (fun _ => rfl) (fun _ => rfl)) rfl rfl ?_ | refine op_wg (fun _ => rfl) (p_eql (fun _ => rfl) (fun _ => rfl)) rfl rfl ?_
                    refine op_w (p_pick_t (fun _ => rfl) (fun _ => rfl)) rfl rfl ?_
                    refine op_w (p_move (fun _ => rfl)) rfl rfl ?_
                    first | refine ops_split (t := 134) (fun _ => rfl) rfl (fun hb2 => ?_) (fun hb2 => ?_) | refine ops_split_bool (t := 134) (fun _ => rfl) rfl (fun hb2 => ?_) (fun hb2 => ?_)
                    ·
                      refine op_wg (fun _ => rfl) (p_move (fun _ => rfl)) rfl rfl ?_
                      first | refine op_wg (fun _ => rfl) (p_eql_nat (n := 0) (fun _ => rfl) (fun _ => rfl)) rfl rfl ?_ | refine op_wg (fun _ => rfl) (p_eql (fun _ => rfl) (fun _ => rfl)) rfl rfl ?_
                      refine op_w (p_pick_t (fun _ => rfl) (fun _ => rfl)) rfl rfl ?_
                      refine op_w (p_move (fun _ => rfl)) rfl rfl ?_
                      first | refine ops_split (t := 138) (fun _ => rfl) rfl (fun hb3 => ?_) (fun hb3 => ?_) | refine ops_split_bool (t := 138) (fun _ => rfl) rfl (fun hb3 => ?_) (fun hb3 => ?_)
                      ·
                        refine op_skip (fun _ => rfl) rfl ?_
                        refine op_skip (fun _ => rfl) rfl ?_
                        refine op_skip (fun _ => rfl) rfl ?_
                        refine op_skip (fun _ => rfl) rfl ?_
                        refine op_skip (fun _ => rfl) rfl ?_
                        refine op_skip (fun _ => rfl) rfl ?_
                        refine op_skip (fun _ => rfl) rfl ?_
                        refine op_skip (fun _ => rfl) rfl ?_
                        refine op_skip (fun _ => rfl) rfl ?_
                        refine op_skip (fun _ => rfl) rfl ?_
                        refine op_w (p_pick_t (fun _ => rfl) (fun _ => rfl)) rfl rfl ?_
                        refine op_w (p_assign (fun _ => rfl)) rfl rfl ?_
                        refine ops_nil ?_
                        refine nx_slots (env' := [(1, _), (7, _), (10, _), (18, _), (19, _), (20, _), (24, _), (25, _)]) [1, 7, 10, 18, 19, 20, 24, 25] rfl (fun _ => rfl) ?_
                        refine nx_next ?_
                        refine at_seq ?_
                        refine at_region ?_
                        refine op_w (p_move (fun _ => rfl)) rfl rfl ?_
                        refine op_w (p_move (fun _ => rfl)) rfl rfl ?_
                        refine ops_split_bool (t := 151) (fun _ => rfl) rfl (fun hc1 => ?_) (fun hc1 => ?_)
                        ·
                          refine op_wg (fun _ => rfl) (p_move (fun _ => rfl)) rfl rfl ?_
                          first | refine op_wg (fun _ => rfl) (p_eql_nat (n := 230) (fun _ => rfl) (fun _ => rfl)) rfl rfl ?_ | refine op_wg (fun _ => rfl) (p_eql (fun _ => rfl) (fun _ => rfl)) rfl rfl ?_
                          refine op_w (p_pick_t (fun _ => rfl) (fun _ => rfl)) rfl rfl ?_
                          refine op_w (p_move (fun _ => rfl)) rfl rfl ?_
                          first | refine ops_split (t := 155) (fun _ => rfl) rfl (fun hc2 => ?_) (fun hc2 => ?_) | refine ops_split_bool (t := 155) (fun _ => rfl) rfl (fun hc2 => ?_) (fun hc2 => ?_)
                          ·
                            refine op_wg (fun _ => rfl) (p_move (fun _ => rfl)) rfl rfl ?_
                            first | refine op_wg (fun _ => rfl) (p_eql_nat (n := 0) (fun _ => rfl) (fun _ => rfl)) rfl rfl ?_ | refine op_wg (fun _ => rfl) (p_eql (fun _ => rfl) (fun _ => rfl)) rfl rfl ?_
                            refine op_w (p_pick_t (fun _ => rfl) (fun _ => rfl)) rfl rfl ?_
                            refine op_w (p_move (fun _ => rfl)) rfl rfl ?_
                            first | refine ops_split (t := 159) (fun _ => rfl) rfl (fun hc3 => ?_) (fun hc3 => ?_) | refine ops_split_bool (t := 159) (fun _ => rfl) rfl (fun hc3 => ?_) (fun hc3 => ?_)
                            ·
                              refine op_wg (fun _ => rfl) (p_move (fun _ => rfl)) rfl rfl ?_
                              refine op_w (p_pick_t (fun _ => rfl) (fun _ => rfl)) rfl rfl ?_
                              refine op_w (p_move (fun _ => rfl)) rfl rfl ?_
                              refine op_wg (fun _ => rfl) (p_move (fun _ => rfl)) rfl rfl ?_
                              refine ops_eff (fun _ => rfl) (fits_of rfl) rfl (w_call (vs := [_]) (fun _ => rfl) Tryd.call13 (fun _ => rfl) rfl (jr_records _ jp dp sj2 hJ2) (by repeat (first | exact Pull.nil _ | (apply Pull.cons; (focus (repeat (first | exact One.here _ _ | apply One.there))))))) ?_ no_pan
                              rintro _ _ ⟨_, ⟨sr3, hr3, rfl⟩, rfl⟩
                              refine op_wg (fun _ => rfl) (p_move (fun _ => rfl)) rfl rfl ?_
                              refine op_e (w_callR (vs := [_, _]) (fun _ => rfl) Tryd.call16 (fun _ => rfl) rfl (same_rows hr3 hw hJ2.2.1) (by repeat (first | exact Pull.nil _ | (apply Pull.cons; (focus (repeat (first | exact One.here _ _ | apply One.there))))))) (fun _ => rfl) rfl rfl ?_
                              rintro _ _ ⟨rfl, rfl⟩
                              refine op_w (p_pick_t (fun _ => rfl) (fun _ => rfl)) rfl rfl ?_
                              refine op_w (p_move (fun _ => rfl)) rfl rfl ?_
                              first | refine ops_split (t := 168) (fun _ => rfl) rfl (fun hc5 => ?_) (fun hc5 => ?_) | refine ops_split_bool (t := 168) (fun _ => rfl) rfl (fun hc5 => ?_) (fun hc5 => ?_)
                              ·
                                refine op_wg (fun _ => rfl) (p_move (fun _ => rfl)) rfl rfl ?_
                                refine op_wg (fun _ => rfl) (p_move (fun _ => rfl)) rfl rfl ?_
                                refine op_e (w_callR (vs := [_, _]) (fun _ => rfl) Tryd.call11 (fun _ => rfl) rfl (append_nilj _) (by repeat (first | exact Pull.nil _ | (apply Pull.cons; (focus (repeat (first | exact One.here _ _ | apply One.there))))))) (fun _ => rfl) rfl rfl ?_
                                rintro _ _ ⟨rfl, rfl⟩
                                first | refine op_wg (fun _ => rfl) (p_eql_nat (n := 1) (fun _ => rfl) (fun _ => rfl)) rfl rfl ?_ | refine op_wg (fun _ => rfl) (p_eql (fun _ => rfl) (fun _ => rfl)) rfl rfl ?_
                                refine op_w (p_pick_t (fun _ => rfl) (fun _ => rfl)) rfl rfl ?_
                                refine op_w (p_move (fun _ => rfl)) rfl rfl ?_
                                first | refine ops_split (t := 174) (fun _ => rfl) rfl (fun hc6 => ?_) (fun hc6 => ?_) | refine ops_split_bool (t := 174) (fun _ => rfl) rfl (fun hc6 => ?_) (fun hc6 => ?_)
                                ·
                                  refine op_wg (fun _ => rfl) (p_move (fun _ => rfl)) rfl rfl ?_
                                  refine op_e (w_callR (vs := [_]) (fun _ => rfl) Tryd.call13 (fun _ => rfl) rfl (records_nil) (by repeat (first | exact Pull.nil _ | (apply Pull.cons; (focus (repeat (first | exact One.here _ _ | apply One.there))))))) (fun _ => rfl) rfl rfl ?_
                                  rintro _ _ ⟨rfl, rfl⟩
                                  refine op_wg (fun _ => rfl) (p_len_slice Tryd.underlying22 (fun _ => rfl)) rfl rfl ?_
                                  first | refine op_wg (fun _ => rfl) (p_eql_nat (n := 0) (fun _ => rfl) (fun _ => rfl)) rfl rfl ?_ | refine op_wg (fun _ => rfl) (p_eql (fun _ => rfl) (fun _ => rfl)) rfl rfl ?_
                                  refine op_w (p_pick_t (fun _ => rfl) (fun _ => rfl)) rfl rfl ?_
                                  refine op_w (p_move (fun _ => rfl)) rfl rfl ?_
                                  first | refine ops_split (t := 180) (fun _ => rfl) rfl (fun hc7 => ?_) (fun hc7 => ?_) | refine ops_split_bool (t := 180) (fun _ => rfl) rfl (fun hc7 => ?_) (fun hc7 => ?_)
                                  ·
                                    refine op_wg (fun _ => rfl) (p_move (fun _ => rfl)) rfl rfl ?_
                                    refine op_e (w_callR (vs := [_]) (fun _ => rfl) Tryd.call12 (fun _ => rfl) rfl (room_nil) (by repeat (first | exact Pull.nil _ | (apply Pull.cons; (focus (repeat (first | exact One.here _ _ | apply One.there))))))) (fun _ => rfl) rfl rfl ?_
                                    rintro _ _ ⟨rfl, rfl⟩
                                    first | refine op_wg (fun _ => rfl) (p_eql_nat (n := 0) (fun _ => rfl) (fun _ => rfl)) rfl rfl ?_ | refine op_wg (fun _ => rfl) (p_eql (fun _ => rfl) (fun _ => rfl)) rfl rfl ?_
                                    refine op_w (p_pick_t (fun _ => rfl) (fun _ => rfl)) rfl rfl ?_
                                    refine op_w (p_assign (fun _ => rfl)) rfl rfl ?_
                                    refine ops_nil ?_
                                    refine nx_slots (env' := [(6, _)]) [6] rfl (fun _ => rfl) ?_
                                    refine nx_next ?_
                                    refine at_ret ?_
                                    refine nx_end1 (H' := _) rfl Tryd.results3 (fun _ => rfl) (by exact ⟨rfl, rfl⟩) ?hp_3
                                    case hp_3 => repeat (first | exact Sub.refl _ | exact Sub.nil _ | (apply Sub.cons; (focus (repeat (first | exact One.here _ _ | apply One.there)))) | refine Sub.drop _ ?_)
                                  ·
                                    exfalso; first | exact hc7 rfl | (cases hc7; done) | contradiction | omega | (simp at hc7; omega) | (simp_all; done) | (simp_all; omega)
                                ·
                                  exfalso; first | exact hc6 rfl | (cases hc6; done) | contradiction | omega | (simp at hc6; omega) | (simp_all; done) | (simp_all; omega)
                              ·
                                exfalso; first | exact hc5 rfl | (cases hc5; done) | contradiction | omega | (simp at hc5; omega) | (simp_all; done) | (simp_all; omega)
                            ·
                              exfalso; first | exact hc3 rfl | (cases hc3; done) | contradiction | omega | (simp at hc3; omega) | (simp_all; done) | (simp_all; omega)
                          ·
                            exfalso; first | exact hc2 rfl | (cases hc2; done) | contradiction | omega | (simp at hc2; omega) | (simp_all; done) | (simp_all; omega)
                        ·
                          exfalso; first | exact hc1 rfl | (cases hc1; done) | contradiction | omega | (simp at hc1; omega) | (simp_all; done) | (simp_all; omega)
                      ·
                        exfalso; first | exact hb3 rfl | (cases hb3; done) | contradiction | omega | (simp at hb3; omega) | (simp_all; done) | (simp_all; omega)
                    ·
                      exfalso; first | exact hb2 rfl | (cases hb2; done) | contradiction | omega | (simp at hb2; omega) | (simp_all; done) | (simp_all; omega)
                  ·
                    exfalso; first | exact hb1 rfl | (cases hb1; done) | contradiction | omega | (simp at hb1; omega) | (simp_all; done) | (simp_all; omega)
              ·
                exfalso; first | exact hq5 rfl | (cases hq5; done) | contradiction | omega | (simp at hq5; omega) | (simp_all; done) | (simp_all; omega)
        ·
          exfalso; first | exact hq2 rfl | (cases hq2; done) | contradiction | omega | (simp at hq2; omega) | (simp_all; done) | (simp_all; omega)

theorem room_law00 (n : Int) (h1 : -9223372036854775808 ≤ n) (h2 : n ≤ 9223372036854775807) (v : Value) (ls : List (List UInt8)) (M : List Chunk) (hls : StrsIn M v ls) (more : Int) (m1 : -9223372036854775808 ≤ more) (m2 : more ≤ 9223372036854775807) (pa : Addr) (Tx Tg : TypeId) (zx zg : Nat × Nat)
    (hfit : ¬ (outL zero32 (fewL ls)).length ≤ sizeN n) (hsm : ¬ sizeN n < 0 + 35) :
    DoesR Tryd.prog 3 #[.int .i64 n, v, .int .i64 more] [[(4, .cells (kTab.map u32v).toArray Tg zg)], [(0, .cells #[.iface 155 (.pointer (some pa))] Tx zx)], M] (.bool true) := by
  have hsz0 : sizeN n = 1 + pickN n 1500 := rfl
  have hsz1 := pickN_lt n 1500 (by decide)
  have hpk := pickN_lt more 100 (by decide)
  have hml : maxLen = 9223372036854775807 := rfl
  obtain ⟨ks, hks⟩ : ∃ ks, ks = fewL ls := ⟨_, rfl⟩
  have hk6 : ks.length ≤ 6 := by rw [hks]; exact few_len ls
  have hshort : ∀ r ∈ ks, r.length ≤ 65536 := by rw [hks]; exact few_short
  have hk100 : ∀ r ∈ ks, r.length ≤ 100 := by rw [hks]; exact few_100
  rw [← hks] at hfit
  refine spec_enter Tryd.func3 rfl Tryd.ntmps3 rfl ?_
  intro u R
  refine at_slots (env' := [(0, _), (1, _), (2, _)]) [0, 1, 2] rfl (fun _ => rfl) ?_
  refine at_seq ?_
  refine at_region ?_
  refine op_w (p_assign (fun _ => rfl)) rfl rfl ?_
  refine ops_nil ?_
  refine nx_slots (env' := [(0, _), (1, _), (2, _)]) [0, 1, 2] rfl (fun _ => rfl) ?_
  refine nx_next ?_
  refine at_seq ?_
  refine at_region ?_
  refine op_e (w_callR (vs := []) (fun _ => rfl) Tryd.call5 (fun _ => rfl) rfl (sane_spec pa Tx Tg zx zg) (by repeat (first | exact Pull.nil _ | (apply Pull.cons; (focus (repeat (first | exact One.here _ _ | apply One.there))))))) (fun _ => rfl) rfl rfl ?_
  rintro _ _ ⟨rfl, rfl⟩
  refine op_w (p_assign (fun _ => rfl)) rfl rfl ?_
  refine ops_nil ?_
  refine nx_slots (env' := [(0, _), (1, _), (2, _), (7, _)]) [0, 1, 2, 7] rfl (fun _ => rfl) ?_
  refine nx_next ?_
  refine at_seq ?_
  refine at_region ?_
  refine op_w (p_move (fun _ => rfl)) rfl rfl ?_
  refine op_e (w_callR (vs := [_]) (fun _ => rfl) Tryd.call7 (fun _ => rfl) rfl (size_law n h1 h2) (by repeat (first | exact Pull.nil _ | (apply Pull.cons; (focus (repeat (first | exact One.here _ _ | apply One.there))))))) (fun _ => rfl) rfl rfl ?_
  rintro _ _ ⟨rfl, rfl⟩
  refine ops_eff (fun _ => rfl) (fits_of rfl) rfl (w_call (vs := [_]) (fun _ => rfl) Tryd.call6 (fun _ => rfl) rfl (new_state (sizeN n) (by omega) (by omega)) (by repeat (first | exact Pull.nil _ | (apply Pull.cons; (focus (repeat (first | exact One.here _ _ | apply One.there))))))) ?_ no_pan
  rintro _ _ ⟨_, ⟨dp, sd0, rfl, rfl, hR0⟩, rfl⟩
  have hD0 := JD.new (sizeN n) (by omega)
  have hv0 : (DiskS.new (sizeN n)).vi.length = sizeN n := by simp [DiskS.new]
  refine op_w (p_move (fun _ => rfl)) rfl rfl ?_
  refine op_w (p_extract (fun _ => rfl) rfl) rfl rfl ?_
  refine op_w (p_extract (fun _ => rfl) rfl) rfl rfl ?_
  refine op_w (p_assign (fun _ => rfl)) rfl rfl ?_
  refine op_w (p_assign (fun _ => rfl)) rfl rfl ?_
  refine ops_nil ?_
  refine nx_slots (env' := [(0, _), (1, _), (2, _), (7, _), (8, _)]) [0, 1, 2, 7, 8] rfl (fun _ => rfl) ?_
  refine nx_next ?_
  refine at_seq ?_
  refine at_region ?_
  refine op_w (p_move (fun _ => rfl)) rfl rfl ?_
  refine ops_eff (fun _ => rfl) (fits_of rfl) rfl (w_call (vs := [_]) (fun _ => rfl) Tryd.call8 (fun _ => rfl) rfl (jr_open _ _ dp sd0 pa Tx Tg zx zg hD0 hR0) (by repeat (first | exact Pull.nil _ | (apply Pull.cons; (focus (repeat (first | exact One.here _ _ | apply One.there))))))) ?_ no_pan
  rintro _ _ ⟨_, ⟨jp, sj0, rfl, hJ0, rfl⟩, rfl⟩
  refine op_w (p_move (fun _ => rfl)) rfl rfl ?_
  refine op_w (p_extract (fun _ => rfl) rfl) rfl rfl ?_
  refine op_w (p_extract (fun _ => rfl) rfl) rfl rfl ?_
  refine op_w (p_assign (fun _ => rfl)) rfl rfl ?_
  refine op_w (p_assign (fun _ => rfl)) rfl rfl ?_
  refine ops_nil ?_
  refine nx_slots (env' := [(0, _), (1, _), (2, _), (7, _), (8, _), (10, _), (11, _)]) [0, 1, 2, 7, 8, 10, 11] rfl (fun _ => rfl) ?_
  refine nx_next ?_
  refine at_seq ?_
  refine at_seq ?_
  refine at_region ?_
  refine op_w (p_move (fun _ => rfl)) rfl rfl ?_
  first | refine op_w (p_neq_nat (n := 0) (fun _ => rfl) (fun _ => rfl)) rfl rfl ?_ | refine op_w (p_neq (fun _ => rfl) (fun _ => rfl)) rfl rfl ?_
  refine ops_nil ?_
  refine nx_slots (env' := [(0, _), (1, _), (2, _), (7, _), (8, _), (10, _), (39, _)]) [0, 1, 2, 7, 8, 10, 39] rfl (fun _ => rfl) ?_
  refine nx_next ?_
  first | refine at_if (fun _ => rfl) (fun hg1 => ?_) (fun hg1 => ?_) | refine at_if_bool (fun _ => rfl) (fun hg1 => ?_) (fun hg1 => ?_)
  ·
    exfalso; first | exact hg1 rfl | (cases hg1; done) | contradiction | omega | (simp at hg1; omega) | (simp_all; done) | (simp_all; omega)
  ·
    refine at_skip ?_
    refine nx_next ?_
    refine at_seq ?_
    refine at_region ?_
    refine op_w (p_move (fun _ => rfl)) rfl rfl ?_
    refine ops_eff (fun _ => rfl) (fits_of rfl) rfl (w_call (vs := [_]) (fun _ => rfl) Tryd.call9 (fun _ => rfl) rfl (few_mem hls) (by repeat (first | exact Pull.nil _ | (apply Pull.cons; (focus (repeat (first | exact One.here _ _ | apply One.there))))))) ?_ no_pan
    rintro _ _ ⟨_, ⟨sf, hf, rfl⟩, rfl⟩
    rw [← hks] at hf
    obtain ⟨gl, cl, rfl⟩ := hf.form
    refine op_w (p_assign (fun _ => rfl)) rfl rfl ?_
    refine ops_nil ?_
    refine nx_slots (env' := [(0, _), (1, _), (2, _), (7, _), (8, _), (10, _)]) [0, 1, 2, 7, 8, 10] rfl (fun _ => rfl) ?_
    refine nx_next ?_
    refine at_seq ?_
    refine at_region ?_
    refine op_w (p_assign (fun _ => rfl)) rfl rfl ?_
    refine ops_nil ?_
    refine nx_slots (env' := [(0, _), (1, _), (2, _), (7, _), (8, _), (10, _), (12, _)]) [0, 1, 2, 7, 8, 10, 12] rfl (fun _ => rfl) ?_
    refine nx_next ?_
    refine at_seq ?_
    refine at_seq ?_
    refine at_region ?_
    refine op_w (p_assign (fun _ => rfl)) rfl rfl ?_
    refine ops_nil ?_
    refine nx_slots (env' := [(0, _), (1, _), (2, _), (7, _), (8, _), (10, _), (12, _), (13, _)]) [0, 1, 2, 7, 8, 10, 12, 13] rfl (fun _ => rfl) ?_
    refine nx_next ?_
    refine at_block ?_
    refine at_slots (env' := [(12, _), (13, _), (0, _), (1, _), (2, _), (7, _), (8, _), (10, _)]) [12, 13, 0, 1, 2, 7, 8, 10] rfl (fun _ => rfl) ?_
    refine at_loopB (e0 := [(12, _), (13, _)]) (H0 := _) (n := _) (fun m e H => ∃ (i : Nat), m = ks.length - i ∧ (i ≤ ks.length ∧ (outL zero32 (ks.take i)).length ≤ 200 * i) ∧ e = [(12, .int .i64 ((outL zero32 (ks.take i)).length : Int)), (13, .int .i64 (i : Int))] ∧ H = []) (by exact ⟨0, rfl, ⟨Nat.zero_le _, Nat.le_refl _⟩, rfl, rfl⟩) (by repeat (first | exact Pull.nil _ | (apply Pull.cons; (focus (repeat (first | exact One.here _ _ | apply One.there)))))) ?_
    rintro _ _ _ ⟨i, rfl, ⟨hi, hsum⟩, rfl, rfl⟩
    refine at_seq ?_
    refine at_seq ?_
    refine at_region ?_
    refine op_w (p_move (fun _ => rfl)) rfl rfl ?_
    refine op_w (p_move (fun _ => rfl)) rfl rfl ?_
    refine op_w (p_len_slice Tryd.underlying22 (fun _ => rfl)) rfl rfl ?_
    first | refine op_w (p_lss_nat (fun _ => rfl) (fun _ => rfl)) rfl rfl ?_ | refine op_w (p_lss (fun _ => rfl) (fun _ => rfl)) rfl rfl ?_
    refine ops_nil ?_
    refine nx_slots (env' := [(0, _), (1, _), (2, _), (7, _), (8, _), (10, _), (12, _), (13, _), (45, _)]) [0, 1, 2, 7, 8, 10, 12, 13, 45] rfl (fun _ => rfl) ?_
    refine nx_next ?_
    first | refine at_if (fun _ => rfl) (fun hlt => ?_) (fun hlt => ?_) | refine at_if_bool (fun _ => rfl) (fun hlt => ?_) (fun hlt => ?_)
    ·
      rw [List.length_map] at hlt
      refine at_skip ?_
      refine nx_next ?_
      refine at_seq ?_
      refine at_block ?_
      refine at_seq ?_
      obtain ⟨x, hx⟩ : ∃ x, ks[i]? = some x := ⟨_, List.getElem?_eq_getElem hlt⟩
      have hx100 := hk100 x (List.mem_of_getElem? hx)
      obtain ⟨gk, ck, curk, zk, hvk, rfl, hink⟩ := row_in hf (by rw [List.length_map]; omega)
      injection hvk with e1 e2 e3
      subst e1 e3
      have hcell := cellAt hink hx
      have hsn := outT_snoc zero32 ks i x hx (by omega)
      have hes := str_size (encS x)
      have hel : (encS x).length ≤ 110 := by
        have := encI_len x.length (by omega) (by omega)
        unfold encS; rw [List.length_append]; omega
      refine at_region ?_
      refine op_w (p_move (fun _ => rfl)) rfl rfl ?_
      refine op_w (p_move (fun _ => rfl)) rfl rfl ?_
      first | (refine op_w (p_indexAddr_nat0 Tryd.underlying22 Tryd.sizeOf9 (fun _ => rfl) (fun _ => rfl) ?_) rfl rfl ?_; (focus (first | omega | (rw [List.length_map]; omega)))) | (refine op_w (p_indexAddr_nat1 Tryd.underlying22 Tryd.sizeOf9 (fun _ => rfl) (fun _ => rfl) ?_) rfl rfl ?_; (focus (first | omega | (rw [List.length_map]; omega))))
      refine op_r (by repeat (first | exact Has.here _ | apply Has.there)) (p_load Tryd.isAgg9 (fun _ => rfl) (by first | exact hcell | (rw [Nat.mul_one]; exact hcell) | simpa using hcell)) rfl rfl ?_
      refine op_e (w_callR (vs := [_]) (fun _ => rfl) Tryd.call10 (fun _ => rfl) rfl (rputString_spec x (by omega)) (by repeat (first | exact Pull.nil _ | (apply Pull.cons; (focus (repeat (first | exact One.here _ _ | apply One.there))))))) (fun _ => rfl) rfl rfl ?_
      rintro _ _ ⟨rfl, rfl⟩
      refine op_w (p_move (fun _ => rfl)) rfl rfl ?_
      refine op_w (p_extract (fun _ => rfl) rfl) rfl rfl ?_
      refine op_w (p_extract (fun _ => rfl) rfl) rfl rfl ?_
      refine op_w (p_assign (fun _ => rfl)) rfl rfl ?_
      refine op_w (p_assign (fun _ => rfl)) rfl rfl ?_
      refine ops_nil ?_
      refine nx_slots (env' := [(0, _), (1, _), (2, _), (7, _), (8, _), (10, _), (12, _), (13, _), (14, _)]) [0, 1, 2, 7, 8, 10, 12, 13, 14] rfl (fun _ => rfl) ?_
      refine nx_next ?_
      refine at_region ?_
      refine op_w (p_move (fun _ => rfl)) rfl rfl ?_
      first | (refine op_w (p_add_nat (n := 33) (fun _ => rfl) (fun _ => rfl) ?_) rfl rfl ?_; (focus (omega))) | (refine op_w (p_add (fun _ => rfl) (fun _ => rfl) (IntWalk.i64_in _ ?_)) rfl rfl ?_; (focus (omega)))
      refine op_w (p_move (fun _ => rfl)) rfl rfl ?_
      refine op_w (p_len_str Tryd.underlying9 (fun _ => rfl)) rfl rfl ?_
      first | (refine op_w (p_add_nat (fun _ => rfl) (fun _ => rfl) ?_) rfl rfl ?_; (focus (omega))) | (refine op_w (p_add (fun _ => rfl) (fun _ => rfl) (IntWalk.i64_in _ ?_)) rfl rfl ?_; (focus (omega)))
      refine op_w (p_assign (fun _ => rfl)) rfl rfl ?_
      refine ops_nil ?_
      refine nx_slots (env' := [(0, _), (1, _), (2, _), (7, _), (8, _), (10, _), (12, _), (13, _)]) [0, 1, 2, 7, 8, 10, 12, 13] rfl (fun _ => rfl) ?_
      refine nx_block_normal ?_
      refine nx_next ?_
      refine at_region ?_
      refine op_w (p_move (fun _ => rfl)) rfl rfl ?_
      first | (refine op_w (p_add_nat (n := 1) (fun _ => rfl) (fun _ => rfl) ?_) rfl rfl ?_; (focus (omega))) | (refine op_w (p_add (fun _ => rfl) (fun _ => rfl) (IntWalk.i64_in _ ?_)) rfl rfl ?_; (focus (omega)))
      refine op_w (p_assign (fun _ => rfl)) rfl rfl ?_
      refine ops_nil ?_
      refine nx_slots (env' := [(0, _), (1, _), (2, _), (7, _), (8, _), (10, _), (12, _), (13, _)]) [0, 1, 2, 7, 8, 10, 12, 13] rfl (fun _ => rfl) ?_
      refine nx_slots (env' := [(12, _), (13, _), (0, _), (1, _), (2, _), (7, _), (8, _), (10, _)]) [12, 13, 0, 1, 2, 7, 8, 10] rfl (fun _ => rfl) ?_
      refine nx_againB (e' := [(12, _), (13, _)]) (m := _) (H' := _) (by exact ⟨i + 1, rfl, ⟨by omega, by rw [hsn]; omega⟩, by rw [hsn, hes], rfl⟩) ?hm_2 ?hp_2
      case hm_2 => omega
      case hp_2 => repeat (first | exact Sub.refl _ | exact Sub.nil _ | (apply Sub.cons; (focus (repeat (first | exact One.here _ _ | apply One.there)))) | refine Sub.drop _ ?_)
    ·
      rw [List.length_map] at hlt
      rw [List.take_of_length_le (show ks.length ≤ i by omega)]
      refine at_exit ?_
      refine nx_thru (by intro h; cases h) ?_
      refine nx_thru (by intro h; cases h) ?_
      refine nx_block_exit ?_
      refine nx_next ?_
      refine at_seq ?_
      refine at_region ?_
      refine op_w (p_move (fun _ => rfl)) rfl rfl ?_
      refine op_w (p_move (fun _ => rfl)) rfl rfl ?_
      refine ops_eff (fun _ => rfl) (fits_of rfl) rfl (w_call (vs := [_, _]) (fun _ => rfl) Tryd.call11 (fun _ => rfl) rfl (jd_append _ _ jp dp sj0 sf sd0 _ ks Tg zg hD0 hJ0 hR0 hf hshort (by omega)) (by repeat (first | exact Pull.nil _ | (apply Pull.cons; (focus (repeat (first | exact One.here _ _ | apply One.there))))))) ?_ no_pan
      rintro _ _ ⟨_, ⟨e1, j1, d1, sj1, sd1, rfl, hD1, hv1, ho1, hJ1, hR1, rfl⟩, rfl⟩
      have hx1 : e1 = 231 ∧ j1.sz = 0 ∧ d1.vi.length = sizeN n := by
        rcases ho1 with ⟨_, h1, h2, h3⟩ | ⟨h, _⟩
        · exact ⟨h1, by rw [h2], by rw [h3]; exact hv0⟩
        · exfalso; simp only at h; omega
      obtain ⟨rfl, hz1, hv1⟩ := hx1
      refine op_w (p_assign (fun _ => rfl)) rfl rfl ?_
      refine ops_nil ?_
      refine nx_slots (env' := [(0, _), (1, _), (2, _), (7, _), (8, _), (10, _), (12, _), (16, _)]) [0, 1, 2, 7, 8, 10, 12, 16] rfl (fun _ => rfl) ?_
      refine nx_next ?_
      refine at_seq ?_
      refine at_region ?_
      refine op_w (p_move (fun _ => rfl)) rfl rfl ?_
      refine op_w (p_move (fun _ => rfl)) rfl rfl ?_
      refine op_e (w_callR (vs := [_]) (fun _ => rfl) Tryd.call7 (fun _ => rfl) rfl (size_law n h1 h2) (by repeat (first | exact Pull.nil _ | (apply Pull.cons; (focus (repeat (first | exact One.here _ _ | apply One.there))))))) (fun _ => rfl) rfl rfl ?_
      rintro _ _ ⟨rfl, rfl⟩
      first | refine op_w (p_leq_nat (fun _ => rfl) (fun _ => rfl)) rfl rfl ?_ | refine op_w (p_leq (fun _ => rfl) (fun _ => rfl)) rfl rfl ?_
      refine op_w (p_assign (fun _ => rfl)) rfl rfl ?_
      refine ops_nil ?_
      refine nx_slots (env' := [(0, _), (1, _), (2, _), (7, _), (8, _), (10, _), (12, _), (16, _), (17, _)]) [0, 1, 2, 7, 8, 10, 12, 16, 17] rfl (fun _ => rfl) ?_
      refine nx_next ?_
      refine at_seq ?_
      refine at_seq ?_
      refine at_region ?_
      refine op_w (p_move (fun _ => rfl)) rfl rfl ?_
      refine op_w (p_move (fun _ => rfl)) rfl rfl ?_
      first | refine op_w (p_eql_nat (n := 0) (fun _ => rfl) (fun _ => rfl)) rfl rfl ?_ | refine op_w (p_eql (fun _ => rfl) (fun _ => rfl)) rfl rfl ?_
      refine op_w (p_neq_bool Tryd.underlying4 (fun _ => rfl) (fun _ => rfl)) rfl rfl ?_
      refine op_w (p_move (fun _ => rfl)) rfl rfl ?_
      first | refine ops_split (t := 72) (fun _ => rfl) rfl (fun hq1 => ?_) (fun hq1 => ?_) | refine ops_split_bool (t := 72) (fun _ => rfl) rfl (fun hq1 => ?_) (fun hq1 => ?_)
      ·
        exfalso; first | exact hq1 rfl | (cases hq1; done) | contradiction | omega | (simp at hq1; omega) | (simp_all; done) | (simp_all; omega)
      ·
        refine op_wg (fun _ => rfl) (p_move (fun _ => rfl)) rfl rfl ?_
        first | refine op_wg (fun _ => rfl) (p_not_dec (fun _ => rfl)) rfl rfl ?_ | refine op_wg (fun _ => rfl) (p_not (fun _ => rfl)) rfl rfl ?_
        refine op_wg (fun _ => rfl) (p_move (fun _ => rfl)) rfl rfl ?_
        first | refine ops_split (t := 75) (fun _ => rfl) rfl (fun hq2 => ?_) (fun hq2 => ?_) | refine ops_split_bool (t := 75) (fun _ => rfl) rfl (fun hq2 => ?_) (fun hq2 => ?_)
        ·
          refine op_wg (fun _ => rfl) (p_move (fun _ => rfl)) rfl rfl ?_
          first | refine op_wg (fun _ => rfl) (p_neq_nat (n := 231) (fun _ => rfl) (fun _ => rfl)) rfl rfl ?_ | refine op_wg (fun _ => rfl) (p_neq (fun _ => rfl) (fun _ => rfl)) rfl rfl ?_
          refine op_wg (fun _ => rfl) (p_pick_t (fun _ => rfl) (fun _ => rfl)) rfl rfl ?_
          refine op_w (p_pick_f (fun _ => rfl) (fun _ => rfl)) rfl rfl ?_
          refine op_w (p_move (fun _ => rfl)) rfl rfl ?_
          first | refine ops_split (t := 80) (fun _ => rfl) rfl (fun hq3 => ?_) (fun hq3 => ?_) | refine ops_split_bool (t := 80) (fun _ => rfl) rfl (fun hq3 => ?_) (fun hq3 => ?_)
          ·
            exfalso; first | exact hq3 rfl | (cases hq3; done) | contradiction | omega | (simp at hq3; omega) | (simp_all; done) | (simp_all; omega)
          ·
            refine op_wg (fun _ => rfl) (p_move (fun _ => rfl)) rfl rfl ?_
            refine op_wg (fun _ => rfl) (p_move (fun _ => rfl)) rfl rfl ?_
            first | refine ops_split (t := 82) (fun _ => rfl) rfl (fun hq4 => ?_) (fun hq4 => ?_) | refine ops_split_bool (t := 82) (fun _ => rfl) rfl (fun hq4 => ?_) (fun hq4 => ?_)
            ·
              exfalso; first | exact hq4 rfl | (cases hq4; done) | contradiction | omega | (simp at hq4; omega) | (simp_all; done) | (simp_all; omega)
            ·
              refine op_skip (fun _ => rfl) rfl ?_
              refine op_skip (fun _ => rfl) rfl ?_
              refine op_skip (fun _ => rfl) rfl ?_
              refine op_skip (fun _ => rfl) rfl ?_
              refine op_skip (fun _ => rfl) rfl ?_
              refine op_skip (fun _ => rfl) rfl ?_
              refine op_skip (fun _ => rfl) rfl ?_
              refine op_wg (fun _ => rfl) (p_pick_f (fun _ => rfl) (fun _ => rfl)) rfl rfl ?_
              refine op_w (p_pick_f (fun _ => rfl) (fun _ => rfl)) rfl rfl ?_
              refine op_w (p_move (fun _ => rfl)) rfl rfl ?_
              refine op_wg (fun _ => rfl) (p_move (fun _ => rfl)) rfl rfl ?_
              first | refine op_wg (fun _ => rfl) (p_not_dec (fun _ => rfl)) rfl rfl ?_ | refine op_wg (fun _ => rfl) (p_not (fun _ => rfl)) rfl rfl ?_
              refine op_wg (fun _ => rfl) (p_move (fun _ => rfl)) rfl rfl ?_
              first | refine ops_split (t := 95) (fun _ => rfl) rfl (fun hq5 => ?_) (fun hq5 => ?_) | refine ops_split_bool (t := 95) (fun _ => rfl) rfl (fun hq5 => ?_) (fun hq5 => ?_)
              ·
                refine op_wg (fun _ => rfl) (p_move (fun _ => rfl)) rfl rfl ?_
                refine op_e (w_callR (vs := [_]) (fun _ => rfl) Tryd.call12 (fun _ => rfl) rfl (jr_room _ _ jp dp sj1 sd1 hJ1 hR1 hD1.fit) (by repeat (first | exact Pull.nil _ | (apply Pull.cons; (focus (repeat (first | exact One.here _ _ | apply One.there))))))) (fun _ => rfl) rfl rfl ?_
                rintro _ _ ⟨rfl, rfl⟩
                refine op_wg (fun _ => rfl) (p_move (fun _ => rfl)) rfl rfl ?_
                refine op_e (w_callR (vs := [_]) (fun _ => rfl) Tryd.call7 (fun _ => rfl) rfl (size_law n h1 h2) (by repeat (first | exact Pull.nil _ | (apply Pull.cons; (focus (repeat (first | exact One.here _ _ | apply One.there))))))) (fun _ => rfl) rfl rfl ?_
                rintro _ _ ⟨rfl, rfl⟩
                first | refine op_wg (fun _ => rfl) (p_neq_nat (fun _ => rfl) (fun _ => rfl)) rfl rfl ?_ | refine op_wg (fun _ => rfl) (p_neq (fun _ => rfl) (fun _ => rfl)) rfl rfl ?_
                refine op_wg (fun _ => rfl) (p_pick_t (fun _ => rfl) (fun _ => rfl)) rfl rfl ?_
                refine op_w (p_pick_f (fun _ => rfl) (fun _ => rfl)) rfl rfl ?_
                refine ops_nil ?_
                refine nx_slots (env' := [(1, _), (2, _), (7, _), (8, _), (10, _), (102, _)]) [1, 2, 7, 8, 10, 102] rfl (fun _ => rfl) ?_
                refine nx_next ?_
                first | refine at_if (fun _ => rfl) (fun hq9 => ?_) (fun hq9 => ?_) | refine at_if_bool (fun _ => rfl) (fun hq9 => ?_) (fun hq9 => ?_)
                ·
                  exfalso; first | exact hq9 rfl | (cases hq9; done) | contradiction | omega | (simp at hq9; omega) | (simp_all; done) | (simp_all; omega)
                ·
                  refine at_skip ?_
                  refine nx_next ?_
                  refine at_seq ?_
                  refine at_region ?_
                  refine op_w (p_move (fun _ => rfl)) rfl rfl ?_
                  refine ops_eff (fun _ => rfl) (fits_of rfl) rfl (w_call (vs := [_]) (fun _ => rfl) Tryd.call13 (fun _ => rfl) rfl (jr_records _ jp dp sj1 hJ1) (by repeat (first | exact Pull.nil _ | (apply Pull.cons; (focus (repeat (first | exact One.here _ _ | apply One.there))))))) ?_ no_pan
                  rintro _ _ ⟨_, ⟨sw, hw, rfl⟩, rfl⟩
                  refine op_w (p_assign (fun _ => rfl)) rfl rfl ?_
                  refine ops_nil ?_
                  refine nx_slots (env' := [(1, _), (2, _), (7, _), (8, _), (10, _), (18, _)]) [1, 2, 7, 8, 10, 18] rfl (fun _ => rfl) ?_
                  refine nx_next ?_
                  refine at_seq ?_
                  refine at_region ?_
                  refine op_w (p_move (fun _ => rfl)) rfl rfl ?_
                  refine op_e (w_buildSlice0 Tryd.underlying22 Tryd.sizeOf9) (fun _ => rfl) rfl rfl ?_
                  rintro _ _ ⟨ge, rfl, rfl⟩
                  refine op_w (p_move (fun _ => rfl)) rfl rfl ?_
                  refine op_e (w_append_row (by_ := 16) Tryd.underlying22 (rfl : Tryd.prog.info? 9 = some Tryd.t9) rfl rfl rfl rfl (fun _ => rfl) (row_new _ ge [] 0 rfl (Nat.zero_le _)) (fun _ => rfl) (hf) (by repeat (first | exact One.here _ _ | apply One.there)) (by repeat (first | exact One.here _ _ | apply One.there)) (by simp [Value.oneCell', strV]) (by (simp only [List.length_map, List.length_nil]; omega)) (by (simp only [List.length_map, List.length_nil]; omega))) (fun _ => rfl) rfl rfl ?_
                  rintro _ _ ⟨sp, hrp, rfl⟩
                  obtain ⟨gp, cp, rfl⟩ := hrp.form
                  refine op_w (p_move (fun _ => rfl)) rfl rfl ?_
                  refine op_e (w_callR (vs := [_, _]) (fun _ => rfl) Tryd.call14 (fun _ => rfl) rfl (pick_spec more 100 (by decide) (by decide) m1 m2) (by repeat (first | exact Pull.nil _ | (apply Pull.cons; (focus (repeat (first | exact One.here _ _ | apply One.there))))))) (fun _ => rfl) rfl rfl ?_
                  rintro _ _ ⟨rfl, rfl⟩
                  first | (refine op_w (p_add_nat (m := 65537) (fun _ => rfl) (fun _ => rfl) ?_) rfl rfl ?_; (focus (omega))) | (refine op_w (p_add (fun _ => rfl) (fun _ => rfl) (IntWalk.i64_in _ ?_)) rfl rfl ?_; (focus (omega)))
                  refine op_e (w_makeSlice (by_ := 1) Tryd.underlying38 (rfl : Tryd.prog.info? 5 = some Tryd.t5) rfl rfl rfl rfl (fun _ => rfl) (fun _ => rfl) ?_ ?_ ?_) (fun _ => rfl) rfl rfl ?_
                  (focus (omega))
                  (focus (omega))
                  (focus (omega))
                  rintro _ _ ⟨gm, rfl, rfl⟩
                  refine op_r (by repeat (first | exact Has.here _ | apply Has.there)) (p_conv_bytes_str Tryd.underlying38 Tryd.underlying5 Tryd.underlying9 (fun _ => rfl) (by exact (show (_ = List.map u8v (List.replicate (65537 + pickN more 100) 0)) ∧ _ from ⟨by simp [u8v], by simp⟩))) rfl rfl ?_
                  refine op_e (w_buildSlice (vs := [_]) (cs := [_]) Tryd.underlying22 Tryd.sizeOf9 Tryd.zeroValue9 (fun _ => rfl) rfl rfl rfl rfl rfl) (fun _ => rfl) rfl rfl ?_
                  rintro _ _ ⟨gb, rfl, rfl⟩
                  refine op_e (w_append_row (by_ := 16) Tryd.underlying22 (rfl : Tryd.prog.info? 9 = some Tryd.t9) rfl rfl rfl rfl (fun _ => rfl) (hrp) (fun _ => rfl) (row_new _ gb [strV (List.replicate (65537 + pickN more 100) 0)] 1 rfl (by decide)) (by repeat (first | exact One.here _ _ | apply One.there)) (by repeat (first | exact One.here _ _ | apply One.there)) (by simp [Value.oneCell', strV]) (by (simp only [List.length_map, List.length_append, List.length_cons, List.length_nil]; omega)) (by (simp only [List.length_map, List.length_append, List.length_cons, List.length_nil]; omega))) (fun _ => rfl) rfl rfl ?_
                  rintro _ _ ⟨sq, hrq, rfl⟩
                  have hq9 : [] ++ List.map strV ks ++ [strV (List.replicate (65537 + pickN more 100) 0)] = (ks ++ [List.replicate (65537 + pickN more 100) 0]).map strV := by simp
                  rw [hq9] at hrq
                  obtain ⟨gq, cq, rfl⟩ := hrq.form
                  refine op_e (w_callR (vs := [_, _]) (fun _ => rfl) Tryd.call11 (fun _ => rfl) rfl (jr_long _ jp dp sj1 sq _ (ks ++ [List.replicate (65537 + pickN more 100) 0]) hJ1 hD1.br hrq (by simp; omega) (by simp [isLong]; right; omega)) (by repeat (first | exact Pull.nil _ | (apply Pull.cons; (focus (repeat (first | exact One.here _ _ | apply One.there))))))) (fun _ => rfl) rfl rfl ?_
                  rintro _ _ ⟨rfl, rfl⟩
                  refine op_w (p_assign (fun _ => rfl)) rfl rfl ?_
                  refine ops_nil ?_
                  refine nx_slots (env' := [(1, _), (7, _), (8, _), (10, _), (18, _), (19, _)]) [1, 7, 8, 10, 18, 19] rfl (fun _ => rfl) ?_
                  refine nx_next ?_
                  refine at_seq ?_
                  refine at_region ?_
                  refine op_w (p_move (fun _ => rfl)) rfl rfl ?_
                  refine op_e (w_callR (vs := [_, _]) (fun _ => rfl) Tryd.call11 (fun _ => rfl) rfl (jr_none _ _ jp dp sj1 sd1 hJ1 hR1 hD1.br hD1.fit) (by repeat (first | exact Pull.nil _ | (apply Pull.cons; (focus (repeat (first | exact One.here _ _ | apply One.there))))))) (fun _ => rfl) rfl rfl ?_
                  rintro _ _ ⟨rfl, rfl⟩
                  refine op_w (p_assign (fun _ => rfl)) rfl rfl ?_
                  refine ops_nil ?_
                  refine nx_slots (env' := [(1, _), (7, _), (8, _), (10, _), (18, _), (19, _), (20, _)]) [1, 7, 8, 10, 18, 19, 20] rfl (fun _ => rfl) ?_
                  refine nx_next ?_
                  refine at_seq ?_
                  refine at_region ?_
                  refine op_w (p_move (fun _ => rfl)) rfl rfl ?_
                  refine ops_eff (fun _ => rfl) (fits_of rfl) rfl (w_call (vs := [_, _]) (fun _ => rfl) Tryd.call15 (fun _ => rfl) rfl (disk_cut d1 dp sd1 hR1 hD1.off 0 (by decide)) (by repeat (first | exact Pull.nil _ | (apply Pull.cons; (focus (repeat (first | exact One.here _ _ | apply One.there))))))) ?_ no_pan
                  rintro _ _ ⟨_, ⟨sc, rfl, rfl, hRc⟩, rfl⟩
                  obtain ⟨dc, hdc⟩ : ∃ dc, dc = (d1.cut 0).2 := ⟨_, rfl⟩
                  have hcv : dc.vi = d1.vi := by rw [hdc]; unfold DiskS.cut; rw [hD1.off]; rfl
                  have hco : dc.off = true := by rw [hdc]; unfold DiskS.cut; rw [hD1.off]; rfl
                  have hcp : dc.pend = [] := by rw [hdc]; unfold DiskS.cut; rw [hD1.off]; exact hD1.pend
                  rw [← hdc] at hRc
                  have hcl : dc.vi.length = d1.vi.length := by rw [hcv]
                  have hfit1 := hD1.fit
                  have hxl := outX_len j1.h
                  refine ops_nil ?_
                  refine nx_slots (env' := [(1, _), (7, _), (10, _), (18, _), (19, _), (20, _)]) [1, 7, 10, 18, 19, 20] rfl (fun _ => rfl) ?_
                  refine nx_next ?_
                  refine at_seq ?_
                  refine at_region ?_
                  refine op_w (p_move (fun _ => rfl)) rfl rfl ?_
                  refine op_e (w_buildSlice (vs := [_]) (cs := [_]) Tryd.underlying22 Tryd.sizeOf9 Tryd.zeroValue9 (fun _ => rfl) rfl rfl rfl rfl rfl) (fun _ => rfl) rfl rfl ?_
                  rintro _ _ ⟨gx, rfl, rfl⟩
                  refine ops_eff (fun _ => rfl) (fits_of rfl) rfl (w_call (vs := [_, _]) (fun _ => rfl) Tryd.call11 (fun _ => rfl) rfl (jr_off j1 dc jp dp sj1 _ sc _ [[120]] Tg zg hJ1 hRc (row_new _ gx ([[120]].map strV) 1 rfl (by decide)) hD1.br (by omega) (by rw [hcp]; simp) (by decide) (by decide) (by rw [hxl]; omega) hco (by intro h; rw [h] at hxl; simp at hxl)) (by repeat (first | exact Pull.nil _ | (apply Pull.cons; (focus (repeat (first | exact One.here _ _ | apply One.there))))))) ?_ no_pan
                  rintro _ _ ⟨_, ⟨sj2, sd2, rfl, hJ2, hR2, rfl⟩, rfl⟩
                  refine op_w (p_assign (fun _ => rfl)) rfl rfl ?_
                  refine ops_nil ?_
                  refine nx_slots (env' := [(1, _), (7, _), (10, _), (18, _), (19, _), (20, _), (21, _)]) [1, 7, 10, 18, 19, 20, 21] rfl (fun _ => rfl) ?_
                  refine nx_next ?_
                  refine at_seq ?_
                  refine at_region ?_
                  refine op_w (p_move (fun _ => rfl)) rfl rfl ?_
                  refine op_e (w_callR (vs := [_]) (fun _ => rfl) Tryd.call12 (fun _ => rfl) rfl (jr_room { j1 with br := true } dc jp dp sj2 sd2 hJ2 hR2 (by show j1.sz ≤ _; omega)) (by repeat (first | exact Pull.nil _ | (apply Pull.cons; (focus (repeat (first | exact One.here _ _ | apply One.there))))))) (fun _ => rfl) rfl rfl ?_
                  rintro _ _ ⟨rfl, rfl⟩
                  first | refine op_w (p_lss_nat (n := 35) (fun _ => rfl) (fun _ => rfl)) rfl rfl ?_ | refine op_w (p_lss (fun _ => rfl) (fun _ => rfl)) rfl rfl ?_
                  refine op_w (p_assign (fun _ => rfl)) rfl rfl ?_
                  refine ops_nil ?_
                  refine nx_slots (env' := [(1, _), (7, _), (10, _), (18, _), (19, _), (20, _), (21, _), (22, _)]) [1, 7, 10, 18, 19, 20, 21, 22] rfl (fun _ => rfl) ?_
                  refine nx_next ?_
                  refine at_seq ?_
                  refine at_region ?_
                  refine op_w (p_move (fun _ => rfl)) rfl rfl ?_
                  refine op_e (w_callR (vs := [_, _]) (fun _ => rfl) Tryd.call11 (fun _ => rfl) rfl (jr_broken _ jp dp sj2 _ hJ2 rfl) (by repeat (first | exact Pull.nil _ | (apply Pull.cons; (focus (repeat (first | exact One.here _ _ | apply One.there))))))) (fun _ => rfl) rfl rfl ?_
                  rintro _ _ ⟨rfl, rfl⟩
                  refine op_w (p_assign (fun _ => rfl)) rfl rfl ?_
                  refine ops_nil ?_
                  refine nx_slots (env' := [(1, _), (7, _), (10, _), (18, _), (19, _), (20, _), (21, _), (22, _), (23, _)]) [1, 7, 10, 18, 19, 20, 21, 22, 23] rfl (fun _ => rfl) ?_
                  refine nx_next ?_
                  refine at_seq ?_
                  refine at_region ?_
                  refine op_w (p_assign (fun _ => rfl)) rfl rfl ?_
                  refine ops_nil ?_
                  refine nx_slots (env' := [(1, _), (7, _), (10, _), (18, _), (19, _), (20, _), (21, _), (22, _), (23, _), (24, _)]) [1, 7, 10, 18, 19, 20, 21, 22, 23, 24] rfl (fun _ => rfl) ?_
                  refine nx_next ?_
                  refine at_seq ?_
                  refine at_region ?_
                  refine op_w (p_move (fun _ => rfl)) rfl rfl ?_
                  refine op_w (p_move (fun _ => rfl)) rfl rfl ?_
                  first | refine ops_split (t := 130) (fun _ => rfl) rfl (fun hb1 => ?_) (fun hb1 => ?_) | refine ops_split_bool (t := 130) (fun _ => rfl) rfl (fun hb1 => ?_) (fun hb1 => ?_)
                  ·
                    exfalso; first | exact hb1 rfl | (cases hb1; done) | contradiction | omega | (simp at hb1; omega) | (simp_all; done) | (simp_all; omega)
                  ·
                    refine op_skip (fun _ => rfl) rfl ?_
                    refine op_skip (fun _ => rfl) rfl ?_
                    refine op_w (p_pick_f (fun _ => rfl) (fun _ => rfl)) rfl rfl ?_
                    refine op_w (p_move (fun _ => rfl)) rfl rfl ?_
                    refine op_skip (fun _ => rfl) rfl ?_
                    refine op_skip (fun _ => rfl) rfl ?_
                    refine op_w (p_pick_f (fun _ => rfl) (fun _ => rfl)) rfl rfl ?_
                    refine op_w (p_move (fun _ => rfl)) rfl rfl ?_
                    refine op_wg (fun _ => rfl) (p_move (fun _ => rfl)) rfl rfl ?_
                    first | refine op_wg (fun _ => rfl) (p_not_dec (fun _ => rfl)) rfl rfl ?_ | refine op_wg (fun _ => rfl) (p_not (fun _ => rfl)) rfl rfl ?_
                    refine op_wg (fun _ => rfl) (p_move (fun _ => rfl)) rfl rfl ?_
                    first | refine ops_split (t := 141) (fun _ => rfl) rfl (fun hb4 => ?_) (fun hb4 => ?_) | refine ops_split_bool (t := 141) (fun _ => rfl) rfl (fun hb4 => ?_) (fun hb4 => ?_)
                    ·
                      refine op_wg (fun _ => rfl) (p_move (fun _ => rfl)) rfl rfl ?_
                      first | refine op_wg (fun _ => rfl) (p_eql_nat (n := 221) (fun _ => rfl) (fun _ => rfl)) rfl rfl ?_ | refine op_wg (fun _ => rfl) (p_eql (fun _ => rfl) (fun _ => rfl)) rfl rfl ?_
                      refine op_wg (fun _ => rfl) (p_pick_t (fun _ => rfl) (fun _ => rfl)) rfl rfl ?_
                      refine op_wg (fun _ => rfl) (p_move (fun _ => rfl)) rfl rfl ?_
                      first | refine ops_split (t := 145) (fun _ => rfl) rfl (fun hb5 => ?_) (fun hb5 => ?_) | refine ops_split_bool (t := 145) (fun _ => rfl) rfl (fun hb5 => ?_) (fun hb5 => ?_)
                      ·
                        refine op_wg (fun _ => rfl) (p_move (fun _ => rfl)) rfl rfl ?_
                        first | refine op_wg (fun _ => rfl) (p_eql_nat (n := 230) (fun _ => rfl) (fun _ => rfl)) rfl rfl ?_ | refine op_wg (fun _ => rfl) (p_eql (fun _ => rfl) (fun _ => rfl)) rfl rfl ?_
                        refine op_wg (fun _ => rfl) (p_pick_t (fun _ => rfl) (fun _ => rfl)) rfl rfl ?_
                        refine op_w (p_pick_f (fun _ => rfl) (fun _ => rfl)) rfl rfl ?_
                        refine op_w (p_assign (fun _ => rfl)) rfl rfl ?_
                        refine ops_nil ?_
                        refine nx_slots (env' := [(1, _), (7, _), (10, _), (18, _), (19, _), (20, _), (24, _), (25, _)]) [1, 7, 10, 18, 19, 20, 24, 25] rfl (fun _ => rfl) ?_
                        refine nx_next ?_
                        refine at_seq ?_
                        refine at_region ?_
                        refine op_w (p_move (fun _ => rfl)) rfl rfl ?_
                        refine op_w (p_move (fun _ => rfl)) rfl rfl ?_
                        refine ops_split_bool (t := 151) (fun _ => rfl) rfl (fun hc1 => ?_) (fun hc1 => ?_)
                        ·
                          refine op_wg (fun _ => rfl) (p_move (fun _ => rfl)) rfl rfl ?_
                          first | refine op_wg (fun _ => rfl) (p_eql_nat (n := 230) (fun _ => rfl) (fun _ => rfl)) rfl rfl ?_ | refine op_wg (fun _ => rfl) (p_eql (fun _ => rfl) (fun _ => rfl)) rfl rfl ?_
                          refine op_w (p_pick_t (fun _ => rfl) (fun _ => rfl)) rfl rfl ?_
                          refine op_w (p_move (fun _ => rfl)) rfl rfl ?_
                          first | refine ops_split (t := 155) (fun _ => rfl) rfl (fun hc2 => ?_) (fun hc2 => ?_) | refine ops_split_bool (t := 155) (fun _ => rfl) rfl (fun hc2 => ?_) (fun hc2 => ?_)
                          ·
                            refine op_wg (fun _ => rfl) (p_move (fun _ => rfl)) rfl rfl ?_
                            first | refine op_wg (fun _ => rfl) (p_eql_nat (n := 0) (fun _ => rfl) (fun _ => rfl)) rfl rfl ?_ | refine op_wg (fun _ => rfl) (p_eql (fun _ => rfl) (fun _ => rfl)) rfl rfl ?_
                            refine op_w (p_pick_t (fun _ => rfl) (fun _ => rfl)) rfl rfl ?_
                            refine op_w (p_move (fun _ => rfl)) rfl rfl ?_
                            first | refine ops_split (t := 159) (fun _ => rfl) rfl (fun hc3 => ?_) (fun hc3 => ?_) | refine ops_split_bool (t := 159) (fun _ => rfl) rfl (fun hc3 => ?_) (fun hc3 => ?_)
                            ·
                              refine op_wg (fun _ => rfl) (p_move (fun _ => rfl)) rfl rfl ?_
                              refine op_w (p_pick_t (fun _ => rfl) (fun _ => rfl)) rfl rfl ?_
                              refine op_w (p_move (fun _ => rfl)) rfl rfl ?_
                              first | refine ops_split (t := 162) (fun _ => rfl) rfl (fun hc4 => ?_) (fun hc4 => ?_) | refine ops_split_bool (t := 162) (fun _ => rfl) rfl (fun hc4 => ?_) (fun hc4 => ?_)
                              ·
                                refine op_wg (fun _ => rfl) (p_move (fun _ => rfl)) rfl rfl ?_
                                refine ops_eff (fun _ => rfl) (fits_of rfl) rfl (w_call (vs := [_]) (fun _ => rfl) Tryd.call13 (fun _ => rfl) rfl (jr_records _ jp dp sj2 hJ2) (by repeat (first | exact Pull.nil _ | (apply Pull.cons; (focus (repeat (first | exact One.here _ _ | apply One.there))))))) ?_ no_pan
                                rintro _ _ ⟨_, ⟨sr3, hr3, rfl⟩, rfl⟩
                                refine op_wg (fun _ => rfl) (p_move (fun _ => rfl)) rfl rfl ?_
                                refine op_e (w_callR (vs := [_, _]) (fun _ => rfl) Tryd.call16 (fun _ => rfl) rfl (same_rows hr3 hw hJ2.2.1) (by repeat (first | exact Pull.nil _ | (apply Pull.cons; (focus (repeat (first | exact One.here _ _ | apply One.there))))))) (fun _ => rfl) rfl rfl ?_
                                rintro _ _ ⟨rfl, rfl⟩
                                refine op_w (p_pick_t (fun _ => rfl) (fun _ => rfl)) rfl rfl ?_
                                refine op_w (p_move (fun _ => rfl)) rfl rfl ?_
                                first | refine ops_split (t := 168) (fun _ => rfl) rfl (fun hc5 => ?_) (fun hc5 => ?_) | refine ops_split_bool (t := 168) (fun _ => rfl) rfl (fun hc5 => ?_) (fun hc5 => ?_)
                                ·
                                  refine op_wg (fun _ => rfl) (p_move (fun _ => rfl)) rfl rfl ?_
                                  refine op_wg (fun _ => rfl) (p_move (fun _ => rfl)) rfl rfl ?_
                                  refine op_e (w_callR (vs := [_, _]) (fun _ => rfl) Tryd.call11 (fun _ => rfl) rfl (append_nilj _) (by repeat (first | exact Pull.nil _ | (apply Pull.cons; (focus (repeat (first | exact One.here _ _ | apply One.there))))))) (fun _ => rfl) rfl rfl ?_
                                  rintro _ _ ⟨rfl, rfl⟩
                                  first | refine op_wg (fun _ => rfl) (p_eql_nat (n := 1) (fun _ => rfl) (fun _ => rfl)) rfl rfl ?_ | refine op_wg (fun _ => rfl) (p_eql (fun _ => rfl) (fun _ => rfl)) rfl rfl ?_
                                  refine op_w (p_pick_t (fun _ => rfl) (fun _ => rfl)) rfl rfl ?_
                                  refine op_w (p_move (fun _ => rfl)) rfl rfl ?_
                                  first | refine ops_split (t := 174) (fun _ => rfl) rfl (fun hc6 => ?_) (fun hc6 => ?_) | refine ops_split_bool (t := 174) (fun _ => rfl) rfl (fun hc6 => ?_) (fun hc6 => ?_)
                                  ·
                                    refine op_wg (fun _ => rfl) (p_move (fun _ => rfl)) rfl rfl ?_
                                    refine op_e (w_callR (vs := [_]) (fun _ => rfl) Tryd.call13 (fun _ => rfl) rfl (records_nil) (by repeat (first | exact Pull.nil _ | (apply Pull.cons; (focus (repeat (first | exact One.here _ _ | apply One.there))))))) (fun _ => rfl) rfl rfl ?_
                                    rintro _ _ ⟨rfl, rfl⟩
                                    refine op_wg (fun _ => rfl) (p_len_slice Tryd.underlying22 (fun _ => rfl)) rfl rfl ?_
                                    first | refine op_wg (fun _ => rfl) (p_eql_nat (n := 0) (fun _ => rfl) (fun _ => rfl)) rfl rfl ?_ | refine op_wg (fun _ => rfl) (p_eql (fun _ => rfl) (fun _ => rfl)) rfl rfl ?_
                                    refine op_w (p_pick_t (fun _ => rfl) (fun _ => rfl)) rfl rfl ?_
                                    refine op_w (p_move (fun _ => rfl)) rfl rfl ?_
                                    first | refine ops_split (t := 180) (fun _ => rfl) rfl (fun hc7 => ?_) (fun hc7 => ?_) | refine ops_split_bool (t := 180) (fun _ => rfl) rfl (fun hc7 => ?_) (fun hc7 => ?_)
                                    ·
                                      refine op_wg (fun _ => rfl) (p_move (fun _ => rfl)) rfl rfl ?_
                                      refine op_e (w_callR (vs := [_]) (fun _ => rfl) Tryd.call12 (fun _ => rfl) rfl (room_nil) (by repeat (first | exact Pull.nil _ | (apply Pull.cons; (focus (repeat (first | exact One.here _ _ | apply One.there))))))) (fun _ => rfl) rfl rfl ?_
                                      rintro _ _ ⟨rfl, rfl⟩
                                      first | refine op_wg (fun _ => rfl) (p_eql_nat (n := 0) (fun _ => rfl) (fun _ => rfl)) rfl rfl ?_ | refine op_wg (fun _ => rfl) (p_eql (fun _ => rfl) (fun _ => rfl)) rfl rfl ?_
                                      refine op_w (p_pick_t (fun _ => rfl) (fun _ => rfl)) rfl rfl ?_
                                      refine op_w (p_assign (fun _ => rfl)) rfl rfl ?_
                                      refine ops_nil ?_
                                      refine nx_slots (env' := [(6, _)]) [6] rfl (fun _ => rfl) ?_
                                      refine nx_next ?_
                                      refine at_ret ?_
                                      refine nx_end1 (H' := _) rfl Tryd.results3 (fun _ => rfl) (by exact ⟨rfl, rfl⟩) ?hp_3
                                      case hp_3 => repeat (first | exact Sub.refl _ | exact Sub.nil _ | (apply Sub.cons; (focus (repeat (first | exact One.here _ _ | apply One.there)))) | refine Sub.drop _ ?_)
                                    ·
                                      exfalso; first | exact hc7 rfl | (cases hc7; done) | contradiction | omega | (simp at hc7; omega) | (simp_all; done) | (simp_all; omega)
                                  ·
                                    exfalso; first | exact hc6 rfl | (cases hc6; done) | contradiction | omega | (simp at hc6; omega) | (simp_all; done) | (simp_all; omega)
                                ·
                                  exfalso; first | exact hc5 rfl | (cases hc5; done) | contradiction | omega | (simp at hc5; omega) | (simp_all; done) | (simp_all; omega)
                              ·
                                exfalso; first | exact hc4 rfl | (cases hc4; done) | contradiction | omega | (simp at hc4; omega) | (simp_all; done) | (simp_all; omega)
                            ·
                              exfalso; first | exact hc3 rfl | (cases hc3; done) | contradiction | omega | (simp at hc3; omega) | (simp_all; done) | (simp_all; omega)
                          ·
                            exfalso; first | exact hc2 rfl | (cases hc2; done) | contradiction | omega | (simp at hc2; omega) | (simp_all; done) | (simp_all; omega)
                        ·
                          exfalso; first | exact hc1 rfl | (cases hc1; done) | contradiction | omega | (simp at hc1; omega) | (simp_all; done) | (simp_all; omega)
                      ·
                        exfalso; first | exact hb5 rfl | (cases hb5; done) | contradiction | omega | (simp at hb5; omega) | (simp_all; done) | (simp_all; omega)
                    ·
                      exfalso; first | exact hb4 rfl | (cases hb4; done) | contradiction | omega | (simp at hb4; omega) | (simp_all; done) | (simp_all; omega)
              ·
                exfalso; first | exact hq5 rfl | (cases hq5; done) | contradiction | omega | (simp at hq5; omega) | (simp_all; done) | (simp_all; omega)
        ·
          exfalso; first | exact hq2 rfl | (cases hq2; done) | contradiction | omega | (simp at hq2; omega) | (simp_all; done) | (simp_all; omega)

theorem room_law (n : Int) (h1 : -9223372036854775808 ≤ n) (h2 : n ≤ 9223372036854775807) (p : Option Addr) (cap : Nat) (ls : List (List UInt8)) (M : List Chunk) (hls : StrsIn M (.slice p ls.length cap) ls) (more : Int) (m1 : -9223372036854775808 ≤ more) (m2 : more ≤ 9223372036854775807) (pa : Addr) (Tx Tg : TypeId) (zx zg : Nat × Nat) :
    DoesR Tryd.prog 3 #[.int .i64 n, .slice p ls.length cap, .int .i64 more] [[(4, .cells (kTab.map u32v).toArray Tg zg)], [(0, .cells #[.iface 155 (.pointer (some pa))] Tx zx)], M] (.bool true) := by
  by_cases hfit : (outL zero32 (fewL ls)).length ≤ sizeN n
  · by_cases hsm : sizeN n < (outL zero32 (fewL ls)).length + 35
    · exact room_law11 n h1 h2 _ ls M hls more m1 m2 pa Tx Tg zx zg hfit hsm
    · exact room_law10 n h1 h2 _ ls M hls more m1 m2 pa Tx Tg zx zg hfit hsm
  · by_cases hsm : sizeN n < 0 + 35
    · exact room_law01 n h1 h2 _ ls M hls more m1 m2 pa Tx Tg zx zg hfit hsm
    · exact room_law00 n h1 h2 _ ls M hls more m1 m2 pa Tx Tg zx zg hfit hsm

end Go.Proofs.YtddblcjcodejaaaDoor
