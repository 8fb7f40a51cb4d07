/- JournalReopens: the law. -/
import Derived.Test.YtddblcjcodejaaaDoorJm4
namespace Go.Proofs.YtddblcjcodejaaaDoor
open Go Go.RowKit Gw
set_option linter.unusedVariables false
set_option maxRecDepth 100000
attribute [local irreducible] Gw.At Gw.Nx Gw.Ops
theorem reopens_law (n : Int) (h1 : -9223372036854775808 ≤ n) (h2 : n ≤ 9223372036854775807) (p : Option Addr) (cap : Nat) (gs : List Value) (M : List Chunk) (hG : ValsIn M (.slice p gs.length cap) gs) (hgs : ∀ v ∈ gs, ∃ ls, StrsIn M v ls) (pa : Addr) (Tx Tg : TypeId) (zx zg : Nat × Nat) :
    DoesR Tryd.prog 4 #[.int .i64 n, .slice p gs.length cap] [[(4, .cells (kTab.map u32v).toArray Tg zg)], [(0, .cells #[.iface 155 (.pointer (some pa))] Tx zx)], M] (.bool true) := by
  have hsz0 : sizeN n = 1 + pickN n 1500 := rfl
  have hsz1 := pickN_lt n 1500 (by decide)
  refine spec_enter Tryd.func4 rfl Tryd.ntmps4 rfl ?_
  intro u R
  refine at_slots (env' := [(0, _), (1, _)]) [0, 1] rfl (fun _ => rfl) ?_
  refine at_seq ?_
  refine at_region ?_
  refine op_w (p_assign (fun _ => rfl)) rfl rfl ?_
  refine ops_nil ?_
  refine nx_slots (env' := [(0, _), (1, _)]) [0, 1] rfl (fun _ => rfl) ?_
  refine nx_next ?_
  refine at_seq ?_
  refine at_region ?_
  refine op_e (w_callR (vs := []) (fun _ => rfl) Tryd.call5 (fun _ => rfl) rfl (sane_spec pa Tx Tg zx zg) (by repeat (first | exact Pull.nil _ | (apply Pull.cons; (focus (repeat (first | exact One.here _ _ | apply One.there))))))) (fun _ => rfl) rfl rfl ?_
  rintro _ _ ⟨rfl, rfl⟩
  refine op_w (p_assign (fun _ => rfl)) rfl rfl ?_
  refine ops_nil ?_
  refine nx_slots (env' := [(0, _), (1, _), (5, _)]) [0, 1, 5] rfl (fun _ => rfl) ?_
  refine nx_next ?_
  refine at_seq ?_
  refine at_region ?_
  refine op_w (p_move (fun _ => rfl)) rfl rfl ?_
  refine op_e (w_callR (vs := [_]) (fun _ => rfl) Tryd.call7 (fun _ => rfl) rfl (size_law n h1 h2) (by repeat (first | exact Pull.nil _ | (apply Pull.cons; (focus (repeat (first | exact One.here _ _ | apply One.there))))))) (fun _ => rfl) rfl rfl ?_
  rintro _ _ ⟨rfl, rfl⟩
  refine ops_eff (fun _ => rfl) (fits_of rfl) rfl (w_call (vs := [_]) (fun _ => rfl) Tryd.call6 (fun _ => rfl) rfl (new_state (sizeN n) (by omega) (by omega)) (by repeat (first | exact Pull.nil _ | (apply Pull.cons; (focus (repeat (first | exact One.here _ _ | apply One.there))))))) ?_ no_pan
  rintro _ _ ⟨_, ⟨dp, sd0, rfl, rfl, hR0⟩, rfl⟩
  have hD0 := JD.new (sizeN n) (by omega)
  have hv0 : (DiskS.new (sizeN n)).vi.length = sizeN n := by simp [DiskS.new]
  refine op_w (p_move (fun _ => rfl)) rfl rfl ?_
  refine op_w (p_extract (fun _ => rfl) rfl) rfl rfl ?_
  refine op_w (p_extract (fun _ => rfl) rfl) rfl rfl ?_
  refine op_w (p_assign (fun _ => rfl)) rfl rfl ?_
  refine op_w (p_assign (fun _ => rfl)) rfl rfl ?_
  refine ops_nil ?_
  refine nx_slots (env' := [(0, _), (1, _), (5, _), (6, _)]) [0, 1, 5, 6] rfl (fun _ => rfl) ?_
  refine nx_next ?_
  refine at_seq ?_
  refine at_region ?_
  refine op_w (p_move (fun _ => rfl)) rfl rfl ?_
  refine ops_eff (fun _ => rfl) (fits_of rfl) rfl (w_call (vs := [_]) (fun _ => rfl) Tryd.call8 (fun _ => rfl) rfl (jr_open _ _ dp sd0 pa Tx Tg zx zg hD0 hR0) (by repeat (first | exact Pull.nil _ | (apply Pull.cons; (focus (repeat (first | exact One.here _ _ | apply One.there))))))) ?_ no_pan
  rintro _ _ ⟨_, ⟨jp, sj0, rfl, hJ0, rfl⟩, rfl⟩
  refine op_w (p_move (fun _ => rfl)) rfl rfl ?_
  refine op_w (p_extract (fun _ => rfl) rfl) rfl rfl ?_
  refine op_w (p_extract (fun _ => rfl) rfl) rfl rfl ?_
  refine op_w (p_assign (fun _ => rfl)) rfl rfl ?_
  refine op_w (p_assign (fun _ => rfl)) rfl rfl ?_
  refine ops_nil ?_
  refine nx_slots (env' := [(0, _), (1, _), (5, _), (6, _), (8, _), (9, _)]) [0, 1, 5, 6, 8, 9] rfl (fun _ => rfl) ?_
  refine nx_next ?_
  refine at_seq ?_
  refine at_seq ?_
  refine at_region ?_
  refine op_w (p_move (fun _ => rfl)) rfl rfl ?_
  first | refine op_w (p_neq_nat (n := 0) (fun _ => rfl) (fun _ => rfl)) rfl rfl ?_ | refine op_w (p_neq (fun _ => rfl) (fun _ => rfl)) rfl rfl ?_
  refine ops_nil ?_
  refine nx_slots (env' := [(0, _), (1, _), (5, _), (6, _), (8, _), (26, _)]) [0, 1, 5, 6, 8, 26] rfl (fun _ => rfl) ?_
  refine nx_next ?_
  first | refine at_if (fun _ => rfl) (fun hg1 => ?_) (fun hg1 => ?_) | refine at_if_bool (fun _ => rfl) (fun hg1 => ?_) (fun hg1 => ?_)
  ·
    exfalso; first | exact hg1 rfl | (cases hg1; done) | contradiction | omega | (simp_all; done)
  ·
    refine at_skip ?_
    refine nx_next ?_
    refine at_seq ?_
    refine at_seq ?_
    refine at_region ?_
    refine op_w (p_assign (fun _ => rfl)) rfl rfl ?_
    refine ops_nil ?_
    refine nx_slots (env' := [(0, _), (1, _), (5, _), (6, _), (8, _), (10, _)]) [0, 1, 5, 6, 8, 10] rfl (fun _ => rfl) ?_
    refine nx_next ?_
    refine at_block ?_
    refine at_slots (env' := [(10, _), (0, _), (1, _), (5, _), (6, _), (8, _)]) [10, 0, 1, 5, 6, 8] rfl (fun _ => rfl) ?_
    refine at_loopB (e0 := [(10, _)]) (H0 := _) (n := _) (fun m e H => ∃ (i : Nat) (j : JrS) (d : DiskS) (sj sd : List Chunk), m = 8 - i ∧ (i ≤ 8 ∧ JD j d ∧ JrR j jp dp sj ∧ DiskR d dp sd ∧ d.vi.length = sizeN n) ∧ e = [(10, .int .i64 (i : Int))] ∧ H = [sj, sd]) (by exact ⟨0, _, _, _, _, rfl, ⟨Nat.zero_le _, hD0, hJ0, hR0, hv0⟩, rfl, rfl⟩) (by repeat (first | exact Pull.nil _ | (apply Pull.cons; (focus (repeat (first | exact One.here _ _ | apply One.there)))))) ?_
    rintro _ _ _ ⟨i, j, d, sj, sd, rfl, ⟨hi, hD, hJ, hR, hv⟩, rfl, rfl⟩
    refine at_seq ?_
    refine at_seq ?_
    refine at_region ?_
    refine op_w (p_move (fun _ => rfl)) rfl rfl ?_
    refine op_w (p_move (fun _ => rfl)) rfl rfl ?_
    refine op_w (p_len_slice Tryd.underlying43 (fun _ => rfl)) rfl rfl ?_
    first | refine op_w (p_lss_nat (fun _ => rfl) (fun _ => rfl)) rfl rfl ?_ | refine op_w (p_lss (fun _ => rfl) (fun _ => rfl)) rfl rfl ?_
    refine op_w (p_move (fun _ => rfl)) rfl rfl ?_
    first | refine ops_split (t := 31) (fun _ => rfl) rfl (fun hlt => ?_) (fun hlt => ?_) | refine ops_split_bool (t := 31) (fun _ => rfl) rfl (fun hlt => ?_) (fun hlt => ?_)
    ·
      refine op_wg (fun _ => rfl) (p_move (fun _ => rfl)) rfl rfl ?_
      first | refine op_wg (fun _ => rfl) (p_lss_nat (n := 8) (fun _ => rfl) (fun _ => rfl)) rfl rfl ?_ | refine op_wg (fun _ => rfl) (p_lss (fun _ => rfl) (fun _ => rfl)) rfl rfl ?_
      refine op_w (p_pick_t (fun _ => rfl) (fun _ => rfl)) rfl rfl ?_
      refine ops_nil ?_
      refine nx_slots (env' := [(0, _), (1, _), (5, _), (6, _), (8, _), (10, _), (34, _)]) [0, 1, 5, 6, 8, 10, 34] rfl (fun _ => rfl) ?_
      refine nx_next ?_
      first | refine at_if (fun _ => rfl) (fun hl8 => ?_) (fun hl8 => ?_) | refine at_if_bool (fun _ => rfl) (fun hl8 => ?_) (fun hl8 => ?_)
      ·
        refine at_skip ?_
        refine nx_next ?_
        refine at_seq ?_
        refine at_block ?_
        obtain ⟨g, o, cur, T, z, rfl, hm, hin⟩ : ∃ g o cur T z, p = some ⟨g, o, none⟩ ∧ (g, Obj.cells cur T z) ∈ M ∧ CellsIn cur o gs := by
          rcases hG with ⟨_, _, _, rfl⟩ | ⟨g, o, cap, cur, T, z, he, hm, hin, _⟩
          · simp at hlt
          · injection he with e1 e2 e3; exact ⟨g, o, cur, T, z, e1, hm, hin⟩
        obtain ⟨x, hx⟩ : ∃ x, gs[i]? = some x := ⟨_, List.getElem?_eq_getElem hlt⟩
        obtain ⟨ls, hls⟩ := hgs x (List.mem_of_getElem? hx)
        have hcell := hin.get i x hx
        refine at_region ?_
        refine op_w (p_move (fun _ => rfl)) rfl rfl ?_
        refine op_w (p_move (fun _ => rfl)) rfl rfl ?_
        refine op_w (p_move (fun _ => rfl)) rfl rfl ?_
        first | (refine op_w (p_indexAddr_nat0 Tryd.underlying43 Tryd.sizeOf22 (fun _ => rfl) (fun _ => rfl) ?_) rfl rfl ?_; (focus (omega))) | (refine op_w (p_indexAddr_nat1 Tryd.underlying43 Tryd.sizeOf22 (fun _ => rfl) (fun _ => rfl) ?_) rfl rfl ?_; (focus (omega)))
        refine op_rm (b := g) (o := .cells cur T z) (by simp [hm]) (p_load Tryd.isAgg22 (fun _ => rfl) (by first | exact hcell | (rw [Nat.mul_one]; exact hcell))) rfl rfl ?_
        refine ops_eff (fun _ => rfl) (fits_of rfl) rfl (w_call (vs := [_]) (fun _ => rfl) Tryd.call9 (fun _ => rfl) rfl (few_mem hls) (by repeat (first | exact Pull.nil _ | (apply Pull.cons; (focus (repeat (first | exact One.here _ _ | apply One.there))))))) ?_ no_pan
        rintro _ _ ⟨_, ⟨sf, hf, rfl⟩, rfl⟩
        refine ops_eff (fun _ => rfl) (fits_of rfl) rfl (w_call (vs := [_, _]) (fun _ => rfl) Tryd.call11 (fun _ => rfl) rfl (jd_append j d jp dp sj sf sd _ (fewL ls) Tg zg hD hJ hR hf few_short (by have := few_len ls; omega)) (by repeat (first | exact Pull.nil _ | (apply Pull.cons; (focus (repeat (first | exact One.here _ _ | apply One.there))))))) ?_ no_pan
        rintro _ _ ⟨_, ⟨e1, j1, d1, sj1, sd1, rfl, hD1, hv1, ho1, hJ1, hR1, rfl⟩, rfl⟩
        refine ops_nil ?_
        refine nx_slots (env' := [(0, _), (1, _), (5, _), (6, _), (8, _), (10, _)]) [0, 1, 5, 6, 8, 10] rfl (fun _ => rfl) ?_
        refine nx_block_normal ?_
        refine nx_next ?_
        refine at_region ?_
        refine op_w (p_move (fun _ => rfl)) rfl rfl ?_
        first | (refine op_w (p_add_nat (n := 1) (fun _ => rfl) (fun _ => rfl) ?_) rfl rfl ?_; (focus (omega))) | (refine op_w (p_add (fun _ => rfl) (fun _ => rfl) (IntWalk.i64_in _ ?_)) rfl rfl ?_; (focus (omega)))
        refine op_w (p_assign (fun _ => rfl)) rfl rfl ?_
        refine ops_nil ?_
        refine nx_slots (env' := [(0, _), (1, _), (5, _), (6, _), (8, _), (10, _)]) [0, 1, 5, 6, 8, 10] rfl (fun _ => rfl) ?_
        refine nx_slots (env' := [(10, _), (0, _), (1, _), (5, _), (6, _), (8, _)]) [10, 0, 1, 5, 6, 8] rfl (fun _ => rfl) ?_
        refine nx_againB (e' := [(10, _)]) (m := _) (H' := _) (by exact ⟨i + 1, j1, d1, _, _, rfl, ⟨by omega, hD1, hJ1, hR1, by omega⟩, rfl, rfl⟩) ?hm_2 ?hp_2
        case hm_2 => omega
        case hp_2 => repeat (first | exact Sub.refl _ | exact Sub.nil _ | (apply Sub.cons; (focus (repeat (first | exact One.here _ _ | apply One.there)))) | refine Sub.drop _ ?_)
      ·
        refine at_exit ?_
        refine nx_thru (by intro h; cases h) ?_
        refine nx_thru (by intro h; cases h) ?_
        refine nx_block_exit ?_
        refine nx_next ?_
        refine at_seq ?_
        refine at_region ?_
        refine op_w (p_move (fun _ => rfl)) rfl rfl ?_
        refine ops_eff (fun _ => rfl) (fits_of rfl) rfl (w_call (vs := [_, _]) (fun _ => rfl) Tryd.call15 (fun _ => rfl) rfl (disk_cut d dp sd hR hD.off 1 (by decide)) (by repeat (first | exact Pull.nil _ | (apply Pull.cons; (focus (repeat (first | exact One.here _ _ | apply One.there))))))) ?_ no_pan
        rintro _ _ ⟨_, ⟨sc, rfl, rfl, hRc⟩, rfl⟩
        obtain ⟨dc, hdc⟩ : ∃ dc, dc = (d.cut 1).2 := ⟨_, rfl⟩
        have hcv : dc.vi = d.vi := by rw [hdc]; unfold DiskS.cut; rw [hD.off]; rfl
        have hco : dc.off = false := by rw [hdc]; unfold DiskS.cut; rw [hD.off]; rfl
        have hcp : dc.pend = [] := by rw [hdc]; unfold DiskS.cut; rw [hD.off]; exact hD.pend
        rw [← hdc] at hRc
        have hcl : dc.vi.length = d.vi.length := by rw [hcv]
        refine ops_nil ?_
        refine nx_slots (env' := [(0, _), (5, _), (6, _), (8, _)]) [0, 5, 6, 8] rfl (fun _ => rfl) ?_
        refine nx_next ?_
        refine at_seq ?_
        refine at_region ?_
        refine op_w (p_move (fun _ => rfl)) rfl rfl ?_
        refine ops_eff (fun _ => rfl) (fits_of rfl) rfl (w_call (vs := [_]) (fun _ => rfl) Tryd.call8 (fun _ => rfl) rfl (jr_open_at j d dc dp sc pa Tx Tg zx zg hD hcv hco hRc) (by repeat (first | exact Pull.nil _ | (apply Pull.cons; (focus (repeat (first | exact One.here _ _ | apply One.there))))))) ?_ no_pan
        rintro _ _ ⟨_, ⟨kp, sk, rfl, hK, rfl⟩, rfl⟩
        refine op_w (p_move (fun _ => rfl)) rfl rfl ?_
        refine op_w (p_extract (fun _ => rfl) rfl) rfl rfl ?_
        refine op_w (p_extract (fun _ => rfl) rfl) rfl rfl ?_
        refine op_w (p_assign (fun _ => rfl)) rfl rfl ?_
        refine op_w (p_assign (fun _ => rfl)) rfl rfl ?_
        refine ops_nil ?_
        refine nx_slots (env' := [(0, _), (5, _), (6, _), (8, _), (11, _), (12, _)]) [0, 5, 6, 8, 11, 12] rfl (fun _ => rfl) ?_
        refine nx_next ?_
        refine at_seq ?_
        refine at_region ?_
        refine op_w (p_move (fun _ => rfl)) rfl rfl ?_
        refine op_w (p_move (fun _ => rfl)) rfl rfl ?_
        refine ops_split_bool (t := 52) (fun _ => rfl) rfl (fun hk1 => ?_) (fun hk1 => ?_)
        ·
          refine op_wg (fun _ => rfl) (p_move (fun _ => rfl)) rfl rfl ?_
          first | refine op_wg (fun _ => rfl) (p_eql_nat (n := 0) (fun _ => rfl) (fun _ => rfl)) rfl rfl ?_ | refine op_wg (fun _ => rfl) (p_eql (fun _ => rfl) (fun _ => rfl)) rfl rfl ?_
          refine op_w (p_pick_t (fun _ => rfl) (fun _ => rfl)) rfl rfl ?_
          refine op_w (p_move (fun _ => rfl)) rfl rfl ?_
          first | refine ops_split (t := 56) (fun _ => rfl) rfl (fun hk2 => ?_) (fun hk2 => ?_) | refine ops_split_bool (t := 56) (fun _ => rfl) rfl (fun hk2 => ?_) (fun hk2 => ?_)
          ·
            refine op_wg (fun _ => rfl) (p_move (fun _ => rfl)) rfl rfl ?_
            first | refine op_wg (fun _ => rfl) (p_neq_nil_nil Tryd.underlying29 (fun _ => rfl) (fun _ => rfl)) rfl rfl ?_ | refine op_wg (fun _ => rfl) (p_neq_ptr_nil Tryd.underlying29 (fun _ => rfl) (fun _ => rfl)) rfl rfl ?_
            refine op_w (p_pick_t (fun _ => rfl) (fun _ => rfl)) rfl rfl ?_
            refine op_w (p_move (fun _ => rfl)) rfl rfl ?_
            refine ops_split_bool (t := 60) (fun _ => rfl) rfl (fun hk3 => ?_) (fun hk3 => ?_)
            ·
              refine op_wg (fun _ => rfl) (p_move (fun _ => rfl)) rfl rfl ?_
              refine ops_eff (fun _ => rfl) (fits_of rfl) rfl (w_call (vs := [_]) (fun _ => rfl) Tryd.call13 (fun _ => rfl) rfl (jr_records _ jp dp sj hJ) (by repeat (first | exact Pull.nil _ | (apply Pull.cons; (focus (repeat (first | exact One.here _ _ | apply One.there))))))) ?_ no_pan
              rintro _ _ ⟨_, ⟨sr1, hr1, rfl⟩, rfl⟩
              refine op_wg (fun _ => rfl) (p_move (fun _ => rfl)) rfl rfl ?_
              refine ops_eff (fun _ => rfl) (fits_of rfl) rfl (w_call (vs := [_]) (fun _ => rfl) Tryd.call13 (fun _ => rfl) rfl (jr_records _ kp dp sk hK) (by repeat (first | exact Pull.nil _ | (apply Pull.cons; (focus (repeat (first | exact One.here _ _ | apply One.there))))))) ?_ no_pan
              rintro _ _ ⟨_, ⟨sr2, hr2, rfl⟩, rfl⟩
              refine op_e (w_callR (vs := [_, _]) (fun _ => rfl) Tryd.call16 (fun _ => rfl) rfl (same_rows hr1 hr2 hJ.2.1) (by repeat (first | exact Pull.nil _ | (apply Pull.cons; (focus (repeat (first | exact One.here _ _ | apply One.there))))))) (fun _ => rfl) rfl rfl ?_
              rintro _ _ ⟨rfl, rfl⟩
              refine op_w (p_pick_t (fun _ => rfl) (fun _ => rfl)) rfl rfl ?_
              refine op_w (p_move (fun _ => rfl)) rfl rfl ?_
              first | refine ops_split (t := 67) (fun _ => rfl) rfl (fun hk4 => ?_) (fun hk4 => ?_) | refine ops_split_bool (t := 67) (fun _ => rfl) rfl (fun hk4 => ?_) (fun hk4 => ?_)
              ·
                refine op_wg (fun _ => rfl) (p_move (fun _ => rfl)) rfl rfl ?_
                refine op_e (w_callR (vs := [_]) (fun _ => rfl) Tryd.call12 (fun _ => rfl) rfl (jr_room j dc jp dp sj sc hJ hRc (by rw [hcl]; exact hD.fit)) (by repeat (first | exact Pull.nil _ | (apply Pull.cons; (focus (repeat (first | exact One.here _ _ | apply One.there))))))) (fun _ => rfl) rfl rfl ?_
                rintro _ _ ⟨rfl, rfl⟩
                refine op_wg (fun _ => rfl) (p_move (fun _ => rfl)) rfl rfl ?_
                refine op_e (w_callR (vs := [_]) (fun _ => rfl) Tryd.call12 (fun _ => rfl) rfl (jr_room j dc kp dp sk sc hK hRc (by rw [hcl]; exact hD.fit)) (by repeat (first | exact Pull.nil _ | (apply Pull.cons; (focus (repeat (first | exact One.here _ _ | apply One.there))))))) (fun _ => rfl) rfl rfl ?_
                rintro _ _ ⟨rfl, rfl⟩
                first | refine op_wg (fun _ => rfl) (p_eql_nat (fun _ => rfl) (fun _ => rfl)) rfl rfl ?_ | refine op_wg (fun _ => rfl) (p_eql (fun _ => rfl) (fun _ => rfl)) rfl rfl ?_
                refine op_w (p_pick_t (fun _ => rfl) (fun _ => rfl)) rfl rfl ?_
                refine op_w (p_move (fun _ => rfl)) rfl rfl ?_
                first | refine ops_split (t := 74) (fun _ => rfl) rfl (fun hk5 => ?_) (fun hk5 => ?_) | refine ops_split_bool (t := 74) (fun _ => rfl) rfl (fun hk5 => ?_) (fun hk5 => ?_)
                ·
                  refine op_wg (fun _ => rfl) (p_move (fun _ => rfl)) rfl rfl ?_
                  refine op_e (w_callR (vs := [_]) (fun _ => rfl) Tryd.call17 (fun _ => rfl) rfl (disk_pending dc dp sc hRc) (by repeat (first | exact Pull.nil _ | (apply Pull.cons; (focus (repeat (first | exact One.here _ _ | apply One.there))))))) (fun _ => rfl) rfl rfl ?_
                  rintro _ _ ⟨rfl, rfl⟩
                  first | refine op_wg (fun _ => rfl) (p_eql_nat (n := 0) (fun _ => rfl) (fun _ => rfl)) rfl rfl ?_ | refine op_wg (fun _ => rfl) (p_eql (fun _ => rfl) (fun _ => rfl)) rfl rfl ?_
                  refine op_w (p_pick_t (fun _ => rfl) (fun _ => rfl)) rfl rfl ?_
                  refine op_w (p_move (fun _ => rfl)) rfl rfl ?_
                  first | refine ops_split (t := 79) (fun _ => rfl) rfl (fun hk6 => ?_) (fun hk6 => ?_) | refine ops_split_bool (t := 79) (fun _ => rfl) rfl (fun hk6 => ?_) (fun hk6 => ?_)
                  ·
                    refine op_wg (fun _ => rfl) (p_move (fun _ => rfl)) rfl rfl ?_
                    refine op_e (w_callR (vs := [_]) (fun _ => rfl) Tryd.call18 (fun _ => rfl) rfl ((by have h := content_law dp dc sc hRc; rw [hco] at h; exact h : DoesR Tryd.prog 18 #[.pointer (some ⟨dp, 0, none⟩)] [sc] (.string (str dc.vi)))) (by repeat (first | exact Pull.nil _ | (apply Pull.cons; (focus (repeat (first | exact One.here _ _ | apply One.there))))))) (fun _ => rfl) rfl rfl ?_
                    rintro _ _ ⟨rfl, rfl⟩
                    refine op_wg (fun _ => rfl) (p_len_str Tryd.underlying9 (fun _ => rfl)) rfl rfl ?_
                    refine op_wg (fun _ => rfl) (p_move (fun _ => rfl)) rfl rfl ?_
                    refine op_e (w_callR (vs := [_]) (fun _ => rfl) Tryd.call7 (fun _ => rfl) rfl (size_law n h1 h2) (by repeat (first | exact Pull.nil _ | (apply Pull.cons; (focus (repeat (first | exact One.here _ _ | apply One.there))))))) (fun _ => rfl) rfl rfl ?_
                    rintro _ _ ⟨rfl, rfl⟩
                    first | refine op_wg (fun _ => rfl) (p_eql_nat (fun _ => rfl) (fun _ => rfl)) rfl rfl ?_ | refine op_wg (fun _ => rfl) (p_eql (fun _ => rfl) (fun _ => rfl)) rfl rfl ?_
                    refine op_w (p_pick_t (fun _ => rfl) (fun _ => rfl)) rfl rfl ?_
                    refine op_w (p_assign (fun _ => rfl)) rfl rfl ?_
                    refine ops_nil ?_
                    refine nx_slots (env' := [(4, _)]) [4] rfl (fun _ => rfl) ?_
                    refine nx_next ?_
                    refine at_ret ?_
                    refine nx_end1 (H' := _) rfl Tryd.results4 (fun _ => rfl) (by exact ⟨by rw [str_size]; simp; omega, rfl⟩) ?hp_3
                    case hp_3 => repeat (first | exact Sub.refl _ | exact Sub.nil _ | (apply Sub.cons; (focus (repeat (first | exact One.here _ _ | apply One.there)))) | refine Sub.drop _ ?_)
                  ·
                    exfalso; first | exact hk6 rfl | (cases hk6; done) | contradiction | omega | (simp_all; done)
                ·
                  exfalso; first | exact hk5 rfl | (cases hk5; done) | contradiction | omega | (simp_all; done)
              ·
                exfalso; first | exact hk4 rfl | (cases hk4; done) | contradiction | omega | (simp_all; done)
            ·
              exfalso; first | exact hk3 rfl | (cases hk3; done) | contradiction | omega | (simp_all; done)
          ·
            exfalso; first | exact hk2 rfl | (cases hk2; done) | contradiction | omega | (simp_all; done)
        ·
          exfalso; first | exact hk1 rfl | (cases hk1; done) | contradiction | omega | (simp_all; done)
    ·
      refine op_skip (fun _ => rfl) rfl ?_
      refine op_skip (fun _ => rfl) rfl ?_
      refine op_w (p_pick_f (fun _ => rfl) (fun _ => rfl)) rfl rfl ?_
      refine ops_nil ?_
      refine nx_slots (env' := [(0, _), (1, _), (5, _), (6, _), (8, _), (10, _), (34, _)]) [0, 1, 5, 6, 8, 10, 34] rfl (fun _ => rfl) ?_
      refine nx_next ?_
      refine at_else (fun _ => rfl) ?_
      refine at_exit ?_
      refine nx_thru (by intro h; cases h) ?_
      refine nx_thru (by intro h; cases h) ?_
      refine nx_block_exit ?_
      refine nx_next ?_
      refine at_seq ?_
      refine at_region ?_
      refine op_w (p_move (fun _ => rfl)) rfl rfl ?_
      refine ops_eff (fun _ => rfl) (fits_of rfl) rfl (w_call (vs := [_, _]) (fun _ => rfl) Tryd.call15 (fun _ => rfl) rfl (disk_cut d dp sd hR hD.off 1 (by decide)) (by repeat (first | exact Pull.nil _ | (apply Pull.cons; (focus (repeat (first | exact One.here _ _ | apply One.there))))))) ?_ no_pan
      rintro _ _ ⟨_, ⟨sc, rfl, rfl, hRc⟩, rfl⟩
      obtain ⟨dc, hdc⟩ : ∃ dc, dc = (d.cut 1).2 := ⟨_, rfl⟩
      have hcv : dc.vi = d.vi := by rw [hdc]; unfold DiskS.cut; rw [hD.off]; rfl
      have hco : dc.off = false := by rw [hdc]; unfold DiskS.cut; rw [hD.off]; rfl
      have hcp : dc.pend = [] := by rw [hdc]; unfold DiskS.cut; rw [hD.off]; exact hD.pend
      rw [← hdc] at hRc
      have hcl : dc.vi.length = d.vi.length := by rw [hcv]
      refine ops_nil ?_
      refine nx_slots (env' := [(0, _), (5, _), (6, _), (8, _)]) [0, 5, 6, 8] rfl (fun _ => rfl) ?_
      refine nx_next ?_
      refine at_seq ?_
      refine at_region ?_
      refine op_w (p_move (fun _ => rfl)) rfl rfl ?_
      refine ops_eff (fun _ => rfl) (fits_of rfl) rfl (w_call (vs := [_]) (fun _ => rfl) Tryd.call8 (fun _ => rfl) rfl (jr_open_at j d dc dp sc pa Tx Tg zx zg hD hcv hco hRc) (by repeat (first | exact Pull.nil _ | (apply Pull.cons; (focus (repeat (first | exact One.here _ _ | apply One.there))))))) ?_ no_pan
      rintro _ _ ⟨_, ⟨kp, sk, rfl, hK, rfl⟩, rfl⟩
      refine op_w (p_move (fun _ => rfl)) rfl rfl ?_
      refine op_w (p_extract (fun _ => rfl) rfl) rfl rfl ?_
      refine op_w (p_extract (fun _ => rfl) rfl) rfl rfl ?_
      refine op_w (p_assign (fun _ => rfl)) rfl rfl ?_
      refine op_w (p_assign (fun _ => rfl)) rfl rfl ?_
      refine ops_nil ?_
      refine nx_slots (env' := [(0, _), (5, _), (6, _), (8, _), (11, _), (12, _)]) [0, 5, 6, 8, 11, 12] rfl (fun _ => rfl) ?_
      refine nx_next ?_
      refine at_seq ?_
      refine at_region ?_
      refine op_w (p_move (fun _ => rfl)) rfl rfl ?_
      refine op_w (p_move (fun _ => rfl)) rfl rfl ?_
      first | refine ops_split (t := 52) (fun _ => rfl) rfl (fun hk6 => ?_) (fun hk6 => ?_) | refine ops_split_bool (t := 52) (fun _ => rfl) rfl (fun hk6 => ?_) (fun hk6 => ?_)
      ·
        refine op_wg (fun _ => rfl) (p_move (fun _ => rfl)) rfl rfl ?_
        first | refine op_wg (fun _ => rfl) (p_eql_nat (n := 0) (fun _ => rfl) (fun _ => rfl)) rfl rfl ?_ | refine op_wg (fun _ => rfl) (p_eql (fun _ => rfl) (fun _ => rfl)) rfl rfl ?_
        refine op_w (p_pick_t (fun _ => rfl) (fun _ => rfl)) rfl rfl ?_
        refine op_w (p_move (fun _ => rfl)) rfl rfl ?_
        first | refine ops_split (t := 56) (fun _ => rfl) rfl (fun hk6 => ?_) (fun hk6 => ?_) | refine ops_split_bool (t := 56) (fun _ => rfl) rfl (fun hk6 => ?_) (fun hk6 => ?_)
        ·
          refine op_wg (fun _ => rfl) (p_move (fun _ => rfl)) rfl rfl ?_
          first | refine op_wg (fun _ => rfl) (p_neq_nil_nil Tryd.underlying29 (fun _ => rfl) (fun _ => rfl)) rfl rfl ?_ | refine op_wg (fun _ => rfl) (p_neq_ptr_nil Tryd.underlying29 (fun _ => rfl) (fun _ => rfl)) rfl rfl ?_
          refine op_w (p_pick_t (fun _ => rfl) (fun _ => rfl)) rfl rfl ?_
          refine op_w (p_move (fun _ => rfl)) rfl rfl ?_
          first | refine ops_split (t := 60) (fun _ => rfl) rfl (fun hk6 => ?_) (fun hk6 => ?_) | refine ops_split_bool (t := 60) (fun _ => rfl) rfl (fun hk6 => ?_) (fun hk6 => ?_)
          ·
            refine op_wg (fun _ => rfl) (p_move (fun _ => rfl)) rfl rfl ?_
            refine ops_eff (fun _ => rfl) (fits_of rfl) rfl (w_call (vs := [_]) (fun _ => rfl) Tryd.call13 (fun _ => rfl) rfl (jr_records _ jp dp sj hJ) (by repeat (first | exact Pull.nil _ | (apply Pull.cons; (focus (repeat (first | exact One.here _ _ | apply One.there))))))) ?_ no_pan
            rintro _ _ ⟨_, ⟨sr1, hr1, rfl⟩, rfl⟩
            refine op_wg (fun _ => rfl) (p_move (fun _ => rfl)) rfl rfl ?_
            refine ops_eff (fun _ => rfl) (fits_of rfl) rfl (w_call (vs := [_]) (fun _ => rfl) Tryd.call13 (fun _ => rfl) rfl (jr_records _ kp dp sk hK) (by repeat (first | exact Pull.nil _ | (apply Pull.cons; (focus (repeat (first | exact One.here _ _ | apply One.there))))))) ?_ no_pan
            rintro _ _ ⟨_, ⟨sr2, hr2, rfl⟩, rfl⟩
            refine op_e (w_callR (vs := [_, _]) (fun _ => rfl) Tryd.call16 (fun _ => rfl) rfl (same_rows hr1 hr2 hJ.2.1) (by repeat (first | exact Pull.nil _ | (apply Pull.cons; (focus (repeat (first | exact One.here _ _ | apply One.there))))))) (fun _ => rfl) rfl rfl ?_
            rintro _ _ ⟨rfl, rfl⟩
            refine op_w (p_pick_t (fun _ => rfl) (fun _ => rfl)) rfl rfl ?_
            refine op_w (p_move (fun _ => rfl)) rfl rfl ?_
            first | refine ops_split (t := 67) (fun _ => rfl) rfl (fun hk6 => ?_) (fun hk6 => ?_) | refine ops_split_bool (t := 67) (fun _ => rfl) rfl (fun hk6 => ?_) (fun hk6 => ?_)
            ·
              refine op_wg (fun _ => rfl) (p_move (fun _ => rfl)) rfl rfl ?_
              refine op_e (w_callR (vs := [_]) (fun _ => rfl) Tryd.call12 (fun _ => rfl) rfl (jr_room j dc jp dp sj sc hJ hRc (by rw [hcl]; exact hD.fit)) (by repeat (first | exact Pull.nil _ | (apply Pull.cons; (focus (repeat (first | exact One.here _ _ | apply One.there))))))) (fun _ => rfl) rfl rfl ?_
              rintro _ _ ⟨rfl, rfl⟩
              refine op_wg (fun _ => rfl) (p_move (fun _ => rfl)) rfl rfl ?_
              refine op_e (w_callR (vs := [_]) (fun _ => rfl) Tryd.call12 (fun _ => rfl) rfl (jr_room j dc kp dp sk sc hK hRc (by rw [hcl]; exact hD.fit)) (by repeat (first | exact Pull.nil _ | (apply Pull.cons; (focus (repeat (first | exact One.here _ _ | apply One.there))))))) (fun _ => rfl) rfl rfl ?_
              rintro _ _ ⟨rfl, rfl⟩
              first | refine op_wg (fun _ => rfl) (p_eql_nat (fun _ => rfl) (fun _ => rfl)) rfl rfl ?_ | refine op_wg (fun _ => rfl) (p_eql (fun _ => rfl) (fun _ => rfl)) rfl rfl ?_
              refine op_w (p_pick_t (fun _ => rfl) (fun _ => rfl)) rfl rfl ?_
              refine op_w (p_move (fun _ => rfl)) rfl rfl ?_
              first | refine ops_split (t := 74) (fun _ => rfl) rfl (fun hk6 => ?_) (fun hk6 => ?_) | refine ops_split_bool (t := 74) (fun _ => rfl) rfl (fun hk6 => ?_) (fun hk6 => ?_)
              ·
                refine op_wg (fun _ => rfl) (p_move (fun _ => rfl)) rfl rfl ?_
                refine op_e (w_callR (vs := [_]) (fun _ => rfl) Tryd.call17 (fun _ => rfl) rfl (disk_pending dc dp sc hRc) (by repeat (first | exact Pull.nil _ | (apply Pull.cons; (focus (repeat (first | exact One.here _ _ | apply One.there))))))) (fun _ => rfl) rfl rfl ?_
                rintro _ _ ⟨rfl, rfl⟩
                first | refine op_wg (fun _ => rfl) (p_eql_nat (n := 0) (fun _ => rfl) (fun _ => rfl)) rfl rfl ?_ | refine op_wg (fun _ => rfl) (p_eql (fun _ => rfl) (fun _ => rfl)) rfl rfl ?_
                refine op_w (p_pick_t (fun _ => rfl) (fun _ => rfl)) rfl rfl ?_
                refine op_w (p_move (fun _ => rfl)) rfl rfl ?_
                first | refine ops_split (t := 79) (fun _ => rfl) rfl (fun hk6 => ?_) (fun hk6 => ?_) | refine ops_split_bool (t := 79) (fun _ => rfl) rfl (fun hk6 => ?_) (fun hk6 => ?_)
                ·
                  refine op_wg (fun _ => rfl) (p_move (fun _ => rfl)) rfl rfl ?_
                  refine op_e (w_callR (vs := [_]) (fun _ => rfl) Tryd.call18 (fun _ => rfl) rfl ((by have h := content_law dp dc sc hRc; rw [hco] at h; exact h : DoesR Tryd.prog 18 #[.pointer (some ⟨dp, 0, none⟩)] [sc] (.string (str dc.vi)))) (by repeat (first | exact Pull.nil _ | (apply Pull.cons; (focus (repeat (first | exact One.here _ _ | apply One.there))))))) (fun _ => rfl) rfl rfl ?_
                  rintro _ _ ⟨rfl, rfl⟩
                  refine op_wg (fun _ => rfl) (p_len_str Tryd.underlying9 (fun _ => rfl)) rfl rfl ?_
                  refine op_wg (fun _ => rfl) (p_move (fun _ => rfl)) rfl rfl ?_
                  refine op_e (w_callR (vs := [_]) (fun _ => rfl) Tryd.call7 (fun _ => rfl) rfl (size_law n h1 h2) (by repeat (first | exact Pull.nil _ | (apply Pull.cons; (focus (repeat (first | exact One.here _ _ | apply One.there))))))) (fun _ => rfl) rfl rfl ?_
                  rintro _ _ ⟨rfl, rfl⟩
                  first | refine op_wg (fun _ => rfl) (p_eql_nat (fun _ => rfl) (fun _ => rfl)) rfl rfl ?_ | refine op_wg (fun _ => rfl) (p_eql (fun _ => rfl) (fun _ => rfl)) rfl rfl ?_
                  refine op_w (p_pick_t (fun _ => rfl) (fun _ => rfl)) rfl rfl ?_
                  refine op_w (p_assign (fun _ => rfl)) rfl rfl ?_
                  refine ops_nil ?_
                  refine nx_slots (env' := [(4, _)]) [4] rfl (fun _ => rfl) ?_
                  refine nx_next ?_
                  refine at_ret ?_
                  refine nx_end1 (H' := _) rfl Tryd.results4 (fun _ => rfl) (by exact ⟨by rw [str_size]; simp; omega, rfl⟩) ?hp_4
                  case hp_4 => repeat (first | exact Sub.refl _ | exact Sub.nil _ | (apply Sub.cons; (focus (repeat (first | exact One.here _ _ | apply One.there)))) | refine Sub.drop _ ?_)
                ·
                  exfalso; first | exact hk6 rfl | (cases hk6; done) | contradiction | omega | (simp_all; done)
              ·
                exfalso; first | exact hk6 rfl | (cases hk6; done) | contradiction | omega | (simp_all; done)
            ·
              exfalso; first | exact hk6 rfl | (cases hk6; done) | contradiction | omega | (simp_all; done)
          ·
            exfalso; first | exact hk6 rfl | (cases hk6; done) | contradiction | omega | (simp_all; done)
        ·
          exfalso; first | exact hk6 rfl | (cases hk6; done) | contradiction | omega | (simp_all; done)
      ·
        exfalso; first | exact hk6 rfl | (cases hk6; done) | contradiction | omega | (simp_all; done)

end Go.Proofs.YtddblcjcodejaaaDoor
