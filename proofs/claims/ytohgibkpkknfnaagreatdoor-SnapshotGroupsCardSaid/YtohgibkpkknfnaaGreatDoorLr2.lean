/- SnapshotCompacts: the law. -/
import Derived.Test.YtohgibkpkknfnaaGreatDoorLr1
namespace Go.Proofs.YtohgibkpkknfnaaGreatDoor
open Go Go.RowKit Gw
set_option linter.unusedVariables false
set_option maxRecDepth 100000
attribute [local irreducible] Gw.At Gw.Nx Gw.Ops
theorem recs_at (k : Nat) (ks : List (List UInt8)) (m : Nat) (x : List UInt8) (h : ks[k]? = some x) : (recsOf m ks)[k + 1]? = some (itm x) := by
  unfold recsOf; rw [List.getElem?_cons_succ, List.getElem?_map, h]; rfl
theorem recs_first (ks : List (List UInt8)) : (outL zero32 ((recsOf 2 ks).take (0 + 1))).length = 36 := by
  have e0 := hdr_two 2 (by decide)
  have a := recS_one zero32 (hdr 2) (by omega)
  simp only [recsOf, List.take_succ_cons, List.take_zero, outL, List.length_append, a, e0, List.length_nil]
theorem recs_three : (outL zero32 (recsOf 3 [])).length = 36 := by
  have e0 := hdr_two 3 (by decide)
  have a := recS_one zero32 (hdr 3) (by omega)
  simp only [recsOf, List.map_nil, outL, List.length_append, a, e0, List.length_nil]
theorem recs_all (ks : List (List UInt8)) (m k : Nat) (h : ks.length ≤ k) : (recsOf m ks).take (k + 1) = recsOf m ks := List.take_of_length_le (by unfold recsOf; simp; omega)
theorem itm_enc (x : List UInt8) (h : x.length ≤ 100) : (x.length + 1 < 64 → (encS (itm x)).length = x.length + 2) ∧ (64 ≤ x.length + 1 → (encS (itm x)).length = x.length + 3) := by
  have h1 : (itm x).length = x.length + 1 := by unfold itm; rw [List.length_cons]
  have h2 : (encS (itm x)).length = (encI (itm x).length).length + (itm x).length := by unfold encS; rw [List.length_append]
  constructor
  · intro h3
    have := encI_one (itm x).length (by omega)
    omega
  · intro h3
    have := encI_two (itm x).length (by omega) (by omega)
    omega

theorem compacts_law (n : Int) (h1 : -9223372036854775808 ≤ n) (h2 : n ≤ 9223372036854775807) (p : Option Addr) (cap : Nat) (ls : List (List UInt8)) (M : List Chunk) (hls : StrsIn M (.slice p ls.length cap) ls) (times : Int) (t1 : -9223372036854775808 ≤ times) (t2 : times ≤ 9223372036854775807) (pa : Addr) (Tx Tg : TypeId) (zx zg : Nat × Nat) :
    DoesR Tryz.prog 4 #[.int .i64 n, .slice p ls.length cap, .int .i64 times] [[(3, .cells (kTab.map u32v).toArray Tg zg)], [(0, .cells #[.iface 172 (.pointer (some pa))] Tx zx)], M] (.bool true) := by
  have hml : maxLen = 9223372036854775807 := rfl
  obtain ⟨ks, hks⟩ : ∃ ks, ks = fewL ls := ⟨_, rfl⟩
  have hk6 : ks.length ≤ 6 := by rw [hks]; exact few_len ls
  have hk100 : ∀ r ∈ ks, r.length ≤ 100 := by rw [hks]; exact few_100
  have hkb : ks.any isBig = false := by rw [hks]; exact few_big ls
  have hkl := fun h => outL_bound 101 (ks.map itm) h (by omega) (itm_bound 100 hk100)
  simp only [List.length_map] at hkl
  have hsz0 : sizeN n = 40 + pickN n 1200 := rfl
  have hsz1 := pickN_lt n 1200 (by decide)
  have htm := pickN_lt times 30 (by decide)
  refine spec_enter Tryz.func4 rfl Tryz.ntmps4 rfl ?_
  intro u R
  refine at_slots (env' := [(0, _), (1, _), (2, _)]) [0, 1, 2] rfl (fun _ => rfl) ?_
  refine at_seq ?_
  refine at_region ?_
  refine op_w (p_assign (fun _ => rfl)) rfl rfl ?_
  refine ops_nil ?_
  refine nx_slots (env' := [(0, _), (1, _), (2, _)]) [0, 1, 2] rfl (fun _ => rfl) ?_
  refine nx_next ?_
  refine at_seq ?_
  refine at_region ?_
  refine op_e (w_callR (vs := []) (fun _ => rfl) Tryz.call7 (fun _ => rfl) rfl (sane24 pa Tx Tg zx zg) (by repeat (first | exact Pull.nil _ | (apply Pull.cons; (focus (repeat (first | exact One.here _ _ | apply One.there))))))) (fun _ => rfl) rfl rfl ?_
  rintro _ _ ⟨rfl, rfl⟩
  refine op_w (p_assign (fun _ => rfl)) rfl rfl ?_
  refine ops_nil ?_
  refine nx_slots (env' := [(0, _), (1, _), (2, _), (7, _)]) [0, 1, 2, 7] rfl (fun _ => rfl) ?_
  refine nx_next ?_
  refine at_seq ?_
  refine at_region ?_
  refine op_w (p_move (fun _ => rfl)) rfl rfl ?_
  refine op_e (w_callR (vs := [_]) (fun _ => rfl) Tryz.call9 (fun _ => rfl) rfl (size_law n h1 h2) (by repeat (first | exact Pull.nil _ | (apply Pull.cons; (focus (repeat (first | exact One.here _ _ | apply One.there))))))) (fun _ => rfl) rfl rfl ?_
  rintro _ _ ⟨rfl, rfl⟩
  refine ops_eff (fun _ => rfl) (fits_of rfl) rfl (w_call (vs := [_]) (fun _ => rfl) Tryz.call8 (fun _ => rfl) rfl (new_state (sizeN n) (by omega) (by omega)) (by repeat (first | exact Pull.nil _ | (apply Pull.cons; (focus (repeat (first | exact One.here _ _ | apply One.there))))))) ?_ no_pan
  rintro _ _ ⟨_, ⟨a, sda, rfl, rfl, hRa⟩, rfl⟩
  have hDa := JD.new (sizeN n) (by omega)
  have hva := disk_new_len (sizeN n)
  obtain ⟨csa, hca⟩ := hRa.cell
  refine op_w (p_move (fun _ => rfl)) rfl rfl ?_
  refine op_w (p_extract (fun _ => rfl) rfl) rfl rfl ?_
  refine op_w (p_extract (fun _ => rfl) rfl) rfl rfl ?_
  refine op_w (p_assign (fun _ => rfl)) rfl rfl ?_
  refine op_w (p_assign (fun _ => rfl)) rfl rfl ?_
  refine ops_nil ?_
  refine nx_slots (env' := [(0, _), (1, _), (2, _), (7, _), (8, _)]) [0, 1, 2, 7, 8] rfl (fun _ => rfl) ?_
  refine nx_next ?_
  refine at_seq ?_
  refine at_region ?_
  refine op_w (p_move (fun _ => rfl)) rfl rfl ?_
  refine op_e (w_callR (vs := [_]) (fun _ => rfl) Tryz.call9 (fun _ => rfl) rfl (size_law n h1 h2) (by repeat (first | exact Pull.nil _ | (apply Pull.cons; (focus (repeat (first | exact One.here _ _ | apply One.there))))))) (fun _ => rfl) rfl rfl ?_
  rintro _ _ ⟨rfl, rfl⟩
  refine ops_eff (fun _ => rfl) (fits_of rfl) rfl (w_call (vs := [_]) (fun _ => rfl) Tryz.call8 (fun _ => rfl) rfl (new_state (sizeN n) (by omega) (by omega)) (by repeat (first | exact Pull.nil _ | (apply Pull.cons; (focus (repeat (first | exact One.here _ _ | apply One.there))))))) ?_ no_pan
  rintro _ _ ⟨_, ⟨b, sdb, rfl, rfl, hRb⟩, rfl⟩
  obtain ⟨csb, hcb⟩ := hRb.cell
  refine op_w (p_move (fun _ => rfl)) rfl rfl ?_
  refine op_w (p_extract (fun _ => rfl) rfl) rfl rfl ?_
  refine op_w (p_extract (fun _ => rfl) rfl) rfl rfl ?_
  refine op_w (p_assign (fun _ => rfl)) rfl rfl ?_
  refine op_w (p_assign (fun _ => rfl)) rfl rfl ?_
  refine ops_nil ?_
  refine nx_slots (env' := [(0, _), (1, _), (2, _), (7, _), (8, _), (10, _)]) [0, 1, 2, 7, 8, 10] rfl (fun _ => rfl) ?_
  refine nx_next ?_
  refine at_seq ?_
  refine at_ne (s1 := sda) (s2 := sdb) (by repeat (first | exact One.here _ _ | apply One.there)) (by repeat (first | exact One.here _ _ | apply One.there)) hca hcb (fun hab => ?_)
  refine at_region ?_
  refine op_w (p_move (fun _ => rfl)) rfl rfl ?_
  refine op_w (p_move (fun _ => rfl)) rfl rfl ?_
  refine ops_eff (fun _ => rfl) (fits_of rfl) rfl (w_call (vs := [_, _]) (fun _ => rfl) Tryz.call10 (fun _ => rfl) rfl (sn_new a b _ _ sda sdb pa Tx Tg zx zg hab hDa hDa hRa hRb (by omega)) (by repeat (first | exact Pull.nil _ | (apply Pull.cons; (focus (repeat (first | exact One.here _ _ | apply One.there))))))) ?_ no_pan
  rintro _ _ ⟨_, ⟨s0, sp, c, o, ss0, sc0, so0, sda1, rfl, hS0, hg0, hi0, hz0, hl0, hod0, hR0, rfl⟩, rfl⟩
  rw [hva] at hl0
  refine op_w (p_move (fun _ => rfl)) rfl rfl ?_
  refine op_w (p_extract (fun _ => rfl) rfl) rfl rfl ?_
  refine op_w (p_extract (fun _ => rfl) rfl) rfl rfl ?_
  refine op_w (p_assign (fun _ => rfl)) rfl rfl ?_
  refine op_w (p_assign (fun _ => rfl)) rfl rfl ?_
  refine ops_nil ?_
  refine nx_slots (env' := [(0, _), (1, _), (2, _), (7, _), (12, _), (13, _)]) [0, 1, 2, 7, 12, 13] rfl (fun _ => rfl) ?_
  refine nx_next ?_
  refine at_seq ?_
  refine at_seq ?_
  refine at_region ?_
  refine op_w (p_move (fun _ => rfl)) rfl rfl ?_
  first | refine op_w (p_neq_nat (n := 0) (fun _ => rfl) (fun _ => rfl)) rfl rfl ?_ | refine op_w (p_neq (fun _ => rfl) (fun _ => rfl)) rfl rfl ?_
  refine op_w (p_move (fun _ => rfl)) rfl rfl ?_
  first | refine ops_split (t := 41) (fun _ => rfl) rfl (fun hgg1 => ?_) (fun hgg1 => ?_) | refine ops_split_bool (t := 41) (fun _ => rfl) rfl (fun hgg1 => ?_) (fun hgg1 => ?_)
  ·
    exfalso; first | exact hgg1 rfl | (cases hgg1; done) | contradiction | omega | (simp at hgg1; done) | (simp at hgg1; omega) | (simp_all; done) | (simp_all; omega)
  ·
    refine op_wg (fun _ => rfl) (p_move (fun _ => rfl)) rfl rfl ?_
    first | refine op_wg (fun _ => rfl) (p_eql_nil_nil Tryz.underlying30 (fun _ => rfl) (fun _ => rfl)) rfl rfl ?_ | refine op_wg (fun _ => rfl) (p_eql_ptr_nil Tryz.underlying30 (fun _ => rfl) (fun _ => rfl)) rfl rfl ?_
    refine op_w (p_pick_f (fun _ => rfl) (fun _ => rfl)) rfl rfl ?_
    refine ops_nil ?_
    refine nx_slots (env' := [(0, _), (1, _), (2, _), (7, _), (12, _), (44, _)]) [0, 1, 2, 7, 12, 44] rfl (fun _ => rfl) ?_
    refine nx_next ?_
    refine at_if_bool (fun _ => rfl) (fun hgg2 => ?_) (fun hgg2 => ?_)
    ·
      exfalso; first | exact hgg2 rfl | (cases hgg2; done) | contradiction | omega | (simp at hgg2; done) | (simp at hgg2; omega) | (simp_all; done) | (simp_all; omega)
    ·
      refine at_skip ?_
      refine nx_next ?_
      refine at_seq ?_
      refine at_region ?_
      refine op_w (p_move (fun _ => rfl)) rfl rfl ?_
      refine ops_eff (fun _ => rfl) (fits_of rfl) rfl (w_call (vs := [_]) (fun _ => rfl) Tryz.call12 (fun _ => rfl) rfl (few_mem hls) (by repeat (first | exact Pull.nil _ | (apply Pull.cons; (focus (repeat (first | exact One.here _ _ | apply One.there))))))) ?_ no_pan
      rintro _ _ ⟨_, ⟨sf, hf, rfl⟩, rfl⟩
      rw [← hks] at hf
      obtain ⟨gl, cl, rfl⟩ := hf.form
      refine op_w (p_assign (fun _ => rfl)) rfl rfl ?_
      refine ops_nil ?_
      refine nx_slots (env' := [(0, _), (1, _), (2, _), (7, _), (12, _)]) [0, 1, 2, 7, 12] rfl (fun _ => rfl) ?_
      refine nx_next ?_
      refine at_seq ?_
      refine at_region ?_
      refine op_w (p_assign (fun _ => rfl)) rfl rfl ?_
      refine ops_nil ?_
      refine nx_slots (env' := [(0, _), (1, _), (2, _), (7, _), (12, _), (14, _)]) [0, 1, 2, 7, 12, 14] rfl (fun _ => rfl) ?_
      refine nx_next ?_
      refine at_seq ?_
      refine at_seq ?_
      refine at_region ?_
      refine op_w (p_assign (fun _ => rfl)) rfl rfl ?_
      refine ops_nil ?_
      refine nx_slots (env' := [(0, _), (1, _), (2, _), (7, _), (12, _), (14, _), (15, _)]) [0, 1, 2, 7, 12, 14, 15] rfl (fun _ => rfl) ?_
      refine nx_next ?_
      refine at_block ?_
      refine at_slots (env' := [(14, _), (15, _), (0, _), (1, _), (2, _), (7, _), (12, _)]) [14, 15, 0, 1, 2, 7, 12] rfl (fun _ => rfl) ?_
      refine at_loopB (e0 := [(14, _), (15, _)]) (H0 := _) (n := _) (fun m e H => ∃ (i : Nat) (s : SnS) (ss sc sca : List Chunk), m = 40 - i ∧ (i ≤ 30 ∧ SnOk s ∧ s.gen = 1 ∧ s.its.length = i * ks.length ∧ s.cd.vi.length = sizeN n ∧ s.od = DiskS.new (sizeN n) ∧ SnR s sp c a o b ss sc so0 sca sdb) ∧ e = [(14, .int .i64 (i : Int)), (15, .int .i64 (i : Int))] ∧ H = [ss, sc, sca]) (by exact ⟨0, s0, _, _, _, rfl, ⟨Nat.zero_le _, hS0, hg0, by rw [hi0]; simp, hl0, hod0, hR0⟩, rfl, rfl⟩) (by repeat (first | exact Pull.nil _ | (apply Pull.cons; (focus (repeat (first | exact One.here _ _ | apply One.there)))))) ?_
      rintro _ _ _ ⟨i, s, ss, sc, sca, rfl, ⟨hi, hS, hg, hit, hl, hod, hR⟩, rfl, rfl⟩
      refine at_seq ?_
      refine at_seq ?_
      refine at_region ?_
      refine op_w (p_move (fun _ => rfl)) rfl rfl ?_
      refine op_w (p_move (fun _ => rfl)) rfl rfl ?_
      refine op_e (w_callR (vs := [_, _]) (fun _ => rfl) Tryz.call18 (fun _ => rfl) rfl (pick_spec times 30 (by decide) (by decide) t1 t2) (by repeat (first | exact Pull.nil _ | (apply Pull.cons; (focus (repeat (first | exact One.here _ _ | apply One.there))))))) (fun _ => rfl) rfl rfl ?_
      rintro _ _ ⟨rfl, rfl⟩
      first | (refine op_w (p_add_nat (m := 1) (fun _ => rfl) (fun _ => rfl) ?_) rfl rfl ?_; (focus (omega))) | (refine op_w (p_add (fun _ => rfl) (fun _ => rfl) (IntWalk.i64_in _ ?_)) rfl rfl ?_; (focus (omega)))
      first | refine op_w (p_lss_nat (fun _ => rfl) (fun _ => rfl)) rfl rfl ?_ | refine op_w (p_lss (fun _ => rfl) (fun _ => rfl)) rfl rfl ?_
      refine ops_nil ?_
      refine nx_slots (env' := [(0, _), (1, _), (2, _), (7, _), (12, _), (14, _), (15, _), (51, _)]) [0, 1, 2, 7, 12, 14, 15, 51] rfl (fun _ => rfl) ?_
      refine nx_next ?_
      first | refine at_if (fun _ => rfl) (fun hlt => ?_) (fun hlt => ?_) | refine at_if_bool (fun _ => rfl) (fun hlt => ?_) (fun hlt => ?_)
      ·
        refine at_skip ?_
        refine nx_next ?_
        refine at_seq ?_
        refine at_block ?_
        refine at_seq ?_
        refine at_seq ?_
        refine at_region ?_
        refine op_w (p_move (fun _ => rfl)) rfl rfl ?_
        refine op_w (p_move (fun _ => rfl)) rfl rfl ?_
        refine ops_eff (fun _ => rfl) (fits_of rfl) rfl (w_call (vs := [_, _]) (fun _ => rfl) Tryz.call13 (fun _ => rfl) rfl (sn_append s sp c a o b ss sc so0 sca sdb sf _ ks Tg zg hS hR hf (by omega) hkb) (by repeat (first | exact Pull.nil _ | (apply Pull.cons; (focus (repeat (first | exact One.here _ _ | apply One.there))))))) ?_ no_pan
        rintro _ _ ⟨_, ⟨e1, s1, ss1, sc1, sca1, rfl, hS1, hg1, ho1, hod1, hl1, hx1, hR1, rfl⟩, rfl⟩
        first | refine op_w (p_neq_nat (n := 0) (fun _ => rfl) (fun _ => rfl)) rfl rfl ?_ | refine op_w (p_neq (fun _ => rfl) (fun _ => rfl)) rfl rfl ?_
        refine ops_nil ?_
        refine nx_slots (env' := [(0, _), (1, _), (2, _), (7, _), (12, _), (14, _), (15, _), (57, _)]) [0, 1, 2, 7, 12, 14, 15, 57] rfl (fun _ => rfl) ?_
        refine nx_next ?_
        first | refine at_if (fun _ => rfl) (fun he1 => ?_) (fun he1 => ?_) | refine at_if_bool (fun _ => rfl) (fun he1 => ?_) (fun he1 => ?_)
        ·
          obtain rfl : s = s1 := by
            rcases hx1 with ⟨_, _, h⟩ | ⟨_, h, _⟩
            · exact h.symm
            · exact absurd h he1
          have hgA := hg
          have hlA := hl
          have hoA := hod
          have hiA := hit
          obtain ⟨s1, rfl⟩ : ∃ x, x = s := ⟨_, rfl⟩
          refine at_exit ?_
          refine nx_thru (by intro h; cases h) ?_
          refine nx_block_other rfl ?_
          refine nx_thru (by intro h; cases h) ?_
          refine nx_thru (by intro h; cases h) ?_
          refine nx_block_exit ?_
          refine nx_next ?_
          refine at_seq ?_
          refine at_region ?_
          refine op_w (p_assign (fun _ => rfl)) rfl rfl ?_
          refine ops_nil ?_
          refine nx_slots (env' := [(0, _), (1, _), (7, _), (12, _), (14, _), (16, _)]) [0, 1, 7, 12, 14, 16] rfl (fun _ => rfl) ?_
          refine nx_next ?_
          refine at_seq ?_
          refine at_seq ?_
          refine at_region ?_
          refine op_w (p_assign (fun _ => rfl)) rfl rfl ?_
          refine ops_nil ?_
          refine nx_slots (env' := [(0, _), (1, _), (7, _), (12, _), (14, _), (16, _), (17, _)]) [0, 1, 7, 12, 14, 16, 17] rfl (fun _ => rfl) ?_
          refine nx_next ?_
          refine at_block ?_
          refine at_slots (env' := [(16, _), (17, _), (0, _), (1, _), (7, _), (12, _), (14, _)]) [16, 17, 0, 1, 7, 12, 14] rfl (fun _ => rfl) ?_
          refine at_loopB (e0 := [(16, _), (17, _)]) (H0 := _) (n := _) (fun m e H => ∃ (k : Nat), m = ks.length - k ∧ (k ≤ ks.length ∧ (outL zero32 ((recsOf 2 ks).take (k + 1))).length ≤ 36 + 200 * k) ∧ e = [(16, .int .i64 ((outL zero32 ((recsOf 2 ks).take (k + 1))).length : Int)), (17, .int .i64 (k : Int))] ∧ H = []) (by exact ⟨0, rfl, ⟨Nat.zero_le _, by rw [recs_first]; omega⟩, by rw [recs_first]; rfl, rfl⟩) (by repeat (first | exact Pull.nil _ | (apply Pull.cons; (focus (repeat (first | exact One.here _ _ | apply One.there)))))) ?_
          rintro _ _ _ ⟨k, rfl, ⟨hk, hsum⟩, rfl, rfl⟩
          refine at_seq ?_
          refine at_seq ?_
          refine at_region ?_
          refine op_w (p_move (fun _ => rfl)) rfl rfl ?_
          refine op_w (p_move (fun _ => rfl)) rfl rfl ?_
          refine op_w (p_len_slice Tryz.underlying34 (fun _ => rfl)) rfl rfl ?_
          first | refine op_w (p_lss_nat (fun _ => rfl) (fun _ => rfl)) rfl rfl ?_ | refine op_w (p_lss (fun _ => rfl) (fun _ => rfl)) rfl rfl ?_
          refine ops_nil ?_
          refine nx_slots (env' := [(0, _), (1, _), (7, _), (12, _), (14, _), (16, _), (17, _), (63, _)]) [0, 1, 7, 12, 14, 16, 17, 63] rfl (fun _ => rfl) ?_
          refine nx_next ?_
          first | refine at_if (fun _ => rfl) (fun hlk => ?_) (fun hlk => ?_) | refine at_if_bool (fun _ => rfl) (fun hlk => ?_) (fun hlk => ?_)
          ·
            rw [List.length_map] at hlk
            refine at_skip ?_
            refine nx_next ?_
            refine at_seq ?_
            refine at_block ?_
            refine at_seq ?_
            obtain ⟨x, hx⟩ : ∃ x, ks[k]? = some x := ⟨_, List.getElem?_eq_getElem hlk⟩
            have hx100 := hk100 x (List.mem_of_getElem? hx)
            obtain ⟨gk, ck, curk, zk, hvk, rfl, hink⟩ := row_in hf (by rw [List.length_map]; omega)
            injection hvk with e1 e2 e3
            subst e1 e3
            have hcell := cellAt hink hx
            have hil : (itm x).length = x.length + 1 := by unfold itm; rw [List.length_cons]
            have hsn := outT_snoc zero32 (recsOf 2 ks) (k + 1) (itm x) (recs_at k ks 2 x hx) (by omega)
            have hsx := str_size x
            obtain ⟨hq1, hq2⟩ := itm_enc x hx100
            refine at_region ?_
            refine op_w (p_move (fun _ => rfl)) rfl rfl ?_
            first | (refine op_w (p_add_nat (n := 34) (fun _ => rfl) (fun _ => rfl) ?_) rfl rfl ?_; (focus (omega))) | (refine op_w (p_add (fun _ => rfl) (fun _ => rfl) (IntWalk.i64_in _ ?_)) rfl rfl ?_; (focus (omega)))
            refine op_w (p_move (fun _ => rfl)) rfl rfl ?_
            refine op_w (p_move (fun _ => rfl)) rfl rfl ?_
            first | (refine op_w (p_indexAddr_nat0 Tryz.underlying34 Tryz.sizeOf9 (fun _ => rfl) (fun _ => rfl) ?_) rfl rfl ?_; (focus (first | omega | (rw [List.length_map]; omega)))) | (refine op_w (p_indexAddr_nat1 Tryz.underlying34 Tryz.sizeOf9 (fun _ => rfl) (fun _ => rfl) ?_) rfl rfl ?_; (focus (first | omega | (rw [List.length_map]; omega))))
            refine op_r (by repeat (first | exact Has.here _ | apply Has.there)) (p_load Tryz.isAgg9 (fun _ => rfl) (by first | exact hcell | (rw [Nat.mul_one]; exact hcell) | simpa using hcell)) rfl rfl ?_
            refine op_w (p_len_str Tryz.underlying9 (fun _ => rfl)) rfl rfl ?_
            first | (refine op_w (p_add_nat (fun _ => rfl) (fun _ => rfl) ?_) rfl rfl ?_; (focus (omega))) | (refine op_w (p_add (fun _ => rfl) (fun _ => rfl) (IntWalk.i64_in _ ?_)) rfl rfl ?_; (focus (omega)))
            first | (refine op_w (p_add_nat (n := 1) (fun _ => rfl) (fun _ => rfl) ?_) rfl rfl ?_; (focus (omega))) | (refine op_w (p_add (fun _ => rfl) (fun _ => rfl) (IntWalk.i64_in _ ?_)) rfl rfl ?_; (focus (omega)))
            refine op_w (p_assign (fun _ => rfl)) rfl rfl ?_
            refine ops_nil ?_
            refine nx_slots (env' := [(0, _), (1, _), (7, _), (12, _), (14, _), (16, _), (17, _)]) [0, 1, 7, 12, 14, 16, 17] rfl (fun _ => rfl) ?_
            refine nx_next ?_
            refine at_seq ?_
            refine at_region ?_
            refine op_w (p_move (fun _ => rfl)) rfl rfl ?_
            refine op_w (p_move (fun _ => rfl)) rfl rfl ?_
            first | (refine op_w (p_indexAddr_nat0 Tryz.underlying34 Tryz.sizeOf9 (fun _ => rfl) (fun _ => rfl) ?_) rfl rfl ?_; (focus (first | omega | (rw [List.length_map]; omega)))) | (refine op_w (p_indexAddr_nat1 Tryz.underlying34 Tryz.sizeOf9 (fun _ => rfl) (fun _ => rfl) ?_) rfl rfl ?_; (focus (first | omega | (rw [List.length_map]; omega))))
            refine op_r (by repeat (first | exact Has.here _ | apply Has.there)) (p_load Tryz.isAgg9 (fun _ => rfl) (by first | exact hcell | (rw [Nat.mul_one]; exact hcell) | simpa using hcell)) rfl rfl ?_
            refine op_w (p_len_str Tryz.underlying9 (fun _ => rfl)) rfl rfl ?_
            first | (refine op_w (p_add_nat (n := 1) (fun _ => rfl) (fun _ => rfl) ?_) rfl rfl ?_; (focus (omega))) | (refine op_w (p_add (fun _ => rfl) (fun _ => rfl) (IntWalk.i64_in _ ?_)) rfl rfl ?_; (focus (omega)))
            first | refine op_w (p_gtr_nat (n := 63) (fun _ => rfl) (fun _ => rfl)) rfl rfl ?_ | refine op_w (p_gtr (fun _ => rfl) (fun _ => rfl)) rfl rfl ?_
            refine ops_nil ?_
            refine nx_slots (env' := [(0, _), (1, _), (7, _), (12, _), (14, _), (16, _), (17, _), (81, _)]) [0, 1, 7, 12, 14, 16, 17, 81] rfl (fun _ => rfl) ?_
            refine nx_next ?_
            first | refine at_if (fun _ => rfl) (fun h63 => ?_) (fun h63 => ?_) | refine at_if_bool (fun _ => rfl) (fun h63 => ?_) (fun h63 => ?_)
            ·
              refine at_region ?_
              refine op_w (p_move (fun _ => rfl)) rfl rfl ?_
              first | (refine op_w (p_add_nat (n := 1) (fun _ => rfl) (fun _ => rfl) ?_) rfl rfl ?_; (focus (omega))) | (refine op_w (p_add (fun _ => rfl) (fun _ => rfl) (IntWalk.i64_in _ ?_)) rfl rfl ?_; (focus (omega)))
              refine op_w (p_assign (fun _ => rfl)) rfl rfl ?_
              refine ops_nil ?_
              refine nx_slots (env' := [(0, _), (1, _), (7, _), (12, _), (14, _), (16, _), (17, _)]) [0, 1, 7, 12, 14, 16, 17] rfl (fun _ => rfl) ?_
              refine nx_block_normal ?_
              refine nx_next ?_
              refine at_region ?_
              refine op_w (p_move (fun _ => rfl)) rfl rfl ?_
              first | (refine op_w (p_add_nat (n := 1) (fun _ => rfl) (fun _ => rfl) ?_) rfl rfl ?_; (focus (omega))) | (refine op_w (p_add (fun _ => rfl) (fun _ => rfl) (IntWalk.i64_in _ ?_)) rfl rfl ?_; (focus (omega)))
              refine op_w (p_assign (fun _ => rfl)) rfl rfl ?_
              refine ops_nil ?_
              refine nx_slots (env' := [(0, _), (1, _), (7, _), (12, _), (14, _), (16, _), (17, _)]) [0, 1, 7, 12, 14, 16, 17] rfl (fun _ => rfl) ?_
              refine nx_slots (env' := [(16, _), (17, _), (0, _), (1, _), (7, _), (12, _), (14, _)]) [16, 17, 0, 1, 7, 12, 14] rfl (fun _ => rfl) ?_
              refine nx_againB (e' := [(16, _), (17, _)]) (m := _) (H' := _) (by exact ⟨k + 1, rfl, ⟨by omega, by omega⟩, by first | rw [show (outL zero32 ((recsOf 2 ks).take (k + 1 + 1))).length = (outL zero32 ((recsOf 2 ks).take (k + 1))).length + 34 + (str x).size + 1 by omega] | rw [show (outL zero32 ((recsOf 2 ks).take (k + 1 + 1))).length = (outL zero32 ((recsOf 2 ks).take (k + 1))).length + 34 + (str x).size + 1 + 1 by omega], rfl⟩) ?hm_3 ?hp_3
              case hm_3 => omega
              case hp_3 => repeat (first | exact Sub.refl _ | exact Sub.nil _ | (apply Sub.cons; (focus (repeat (first | exact One.here _ _ | apply One.there)))) | refine Sub.drop _ ?_)
            ·
              refine at_skip ?_
              refine nx_block_normal ?_
              refine nx_next ?_
              refine at_region ?_
              refine op_w (p_move (fun _ => rfl)) rfl rfl ?_
              first | (refine op_w (p_add_nat (n := 1) (fun _ => rfl) (fun _ => rfl) ?_) rfl rfl ?_; (focus (omega))) | (refine op_w (p_add (fun _ => rfl) (fun _ => rfl) (IntWalk.i64_in _ ?_)) rfl rfl ?_; (focus (omega)))
              refine op_w (p_assign (fun _ => rfl)) rfl rfl ?_
              refine ops_nil ?_
              refine nx_slots (env' := [(0, _), (1, _), (7, _), (12, _), (14, _), (16, _), (17, _)]) [0, 1, 7, 12, 14, 16, 17] rfl (fun _ => rfl) ?_
              refine nx_slots (env' := [(16, _), (17, _), (0, _), (1, _), (7, _), (12, _), (14, _)]) [16, 17, 0, 1, 7, 12, 14] rfl (fun _ => rfl) ?_
              refine nx_againB (e' := [(16, _), (17, _)]) (m := _) (H' := _) (by exact ⟨k + 1, rfl, ⟨by omega, by omega⟩, by first | rw [show (outL zero32 ((recsOf 2 ks).take (k + 1 + 1))).length = (outL zero32 ((recsOf 2 ks).take (k + 1))).length + 34 + (str x).size + 1 by omega] | rw [show (outL zero32 ((recsOf 2 ks).take (k + 1 + 1))).length = (outL zero32 ((recsOf 2 ks).take (k + 1))).length + 34 + (str x).size + 1 + 1 by omega], rfl⟩) ?hm_4 ?hp_4
              case hm_4 => omega
              case hp_4 => repeat (first | exact Sub.refl _ | exact Sub.nil _ | (apply Sub.cons; (focus (repeat (first | exact One.here _ _ | apply One.there)))) | refine Sub.drop _ ?_)
          ·
            rw [List.length_map] at hlk
            rw [recs_all ks 2 k (by omega)] at hsum ⊢
            refine at_exit ?_
            refine nx_thru (by intro h; cases h) ?_
            refine nx_thru (by intro h; cases h) ?_
            refine nx_block_exit ?_
            refine nx_next ?_
            refine at_seq ?_
            refine at_region ?_
            refine op_w (p_move (fun _ => rfl)) rfl rfl ?_
            refine op_w (p_move (fun _ => rfl)) rfl rfl ?_
            refine ops_eff (fun _ => rfl) (fits_of rfl) rfl (w_call (vs := [_, _]) (fun _ => rfl) Tryz.call11 (fun _ => rfl) rfl (sn_compact s1 sp c a o b ss1 sc1 so0 sca1 sdb sf _ ks pa Tx Tg zx zg hS1 hR1 hf (by omega) hkb (by omega)) (by repeat (first | exact Pull.nil _ | (apply Pull.cons; (focus (repeat (first | exact One.here _ _ | apply One.there))))))) ?_ no_pan
            rintro _ _ ⟨_, ⟨e2, s2, np, ss2, so2, sdb2, rfl, hS2, rfl, hx2⟩, rfl⟩
            rw [hgA, show (1 : Nat) + 1 = 2 from rfl, hoA, hva] at hx2
            refine op_w (p_assign (fun _ => rfl)) rfl rfl ?_
            refine ops_nil ?_
            refine nx_slots (env' := [(0, _), (1, _), (7, _), (12, _), (14, _), (16, _), (18, _)]) [0, 1, 7, 12, 14, 16, 18] rfl (fun _ => rfl) ?_
            refine nx_next ?_
            refine at_seq ?_
            refine at_seq ?_
            refine at_region ?_
            refine op_w (p_move (fun _ => rfl)) rfl rfl ?_
            refine op_w (p_move (fun _ => rfl)) rfl rfl ?_
            refine op_e (w_callR (vs := [_]) (fun _ => rfl) Tryz.call9 (fun _ => rfl) rfl (size_law n h1 h2) (by repeat (first | exact Pull.nil _ | (apply Pull.cons; (focus (repeat (first | exact One.here _ _ | apply One.there))))))) (fun _ => rfl) rfl rfl ?_
            rintro _ _ ⟨rfl, rfl⟩
            first | refine op_w (p_gtr_nat (fun _ => rfl) (fun _ => rfl)) rfl rfl ?_ | refine op_w (p_gtr (fun _ => rfl) (fun _ => rfl)) rfl rfl ?_
            refine ops_nil ?_
            refine nx_slots (env' := [(0, _), (1, _), (7, _), (12, _), (14, _), (16, _), (18, _), (90, _)]) [0, 1, 7, 12, 14, 16, 18, 90] rfl (fun _ => rfl) ?_
            refine nx_next ?_
            first | refine at_if (fun _ => rfl) (fun hnd => ?_) (fun hnd => ?_) | refine at_if_bool (fun _ => rfl) (fun hnd => ?_) (fun hnd => ?_)
            ·
              obtain ⟨_, rfl, hg2, hi2, _, _, _, hR2⟩ := hx2.resolve_right (fun h => by have := h.1; omega)
              refine at_seq ?_
              refine at_region ?_
              refine op_w (p_move (fun _ => rfl)) rfl rfl ?_
              refine op_w (p_move (fun _ => rfl)) rfl rfl ?_
              refine ops_split_bool (t := 92) (fun _ => rfl) rfl (fun hk1 => ?_) (fun hk1 => ?_)
              ·
                refine op_wg (fun _ => rfl) (p_move (fun _ => rfl)) rfl rfl ?_
                first | refine op_wg (fun _ => rfl) (p_eql_nat (n := 231) (fun _ => rfl) (fun _ => rfl)) rfl rfl ?_ | refine op_wg (fun _ => rfl) (p_eql (fun _ => rfl) (fun _ => rfl)) rfl rfl ?_
                refine op_w (p_pick_t (fun _ => rfl) (fun _ => rfl)) rfl rfl ?_
                refine op_w (p_move (fun _ => rfl)) rfl rfl ?_
                first | refine ops_split (t := 96) (fun _ => rfl) rfl (fun hk2 => ?_) (fun hk2 => ?_) | refine ops_split_bool (t := 96) (fun _ => rfl) rfl (fun hk2 => ?_) (fun hk2 => ?_)
                ·
                  refine op_wg (fun _ => rfl) (p_move (fun _ => rfl)) rfl rfl ?_
                  refine ops_eff (fun _ => rfl) (fits_of rfl) rfl (w_call (vs := [_]) (fun _ => rfl) Tryz.call14 (fun _ => rfl) rfl (sn_items s2 sp c a np b ss2 sc1 so2 sca1 sdb2 hS2 hR2) (by repeat (first | exact Pull.nil _ | (apply Pull.cons; (focus (repeat (first | exact One.here _ _ | apply One.there))))))) ?_ no_pan
                  rintro _ _ ⟨_, ⟨sv2, hv2, rfl⟩, rfl⟩
                  obtain ⟨gv2, cv2, rfl⟩ := hv2.form
                  refine op_wg (fun _ => rfl) (p_len_slice Tryz.underlying34 (fun _ => rfl)) rfl rfl ?_
                  refine op_wg (fun _ => rfl) (p_move (fun _ => rfl)) rfl rfl ?_
                  refine op_wg (fun _ => rfl) (p_move (fun _ => rfl)) rfl rfl ?_
                  refine op_wg (fun _ => rfl) (p_len_slice Tryz.underlying34 (fun _ => rfl)) rfl rfl ?_
                  first | (refine op_wg (fun _ => rfl) (p_mul_nat (fun _ => rfl) (fun _ => rfl) ?_) rfl rfl ?_; (focus ((simp only [List.length_map]; have : i * ks.length ≤ 30 * 6 := Nat.mul_le_mul hi hk6; omega)))) | (refine op_wg (fun _ => rfl) (p_mul (fun _ => rfl) (fun _ => rfl) (IntWalk.i64_in _ ?_)) rfl rfl ?_; (focus ((simp only [List.length_map]; have : i * ks.length ≤ 30 * 6 := Nat.mul_le_mul hi hk6; omega))))
                  first | refine op_wg (fun _ => rfl) (p_eql_nat (fun _ => rfl) (fun _ => rfl)) rfl rfl ?_ | refine op_wg (fun _ => rfl) (p_eql (fun _ => rfl) (fun _ => rfl)) rfl rfl ?_
                  refine op_w (p_pick_t (fun _ => rfl) (fun _ => rfl)) rfl rfl ?_
                  refine op_w (p_move (fun _ => rfl)) rfl rfl ?_
                  first | refine ops_split (t := 106) (fun _ => rfl) rfl (fun hk3 => ?_) (fun hk3 => ?_) | refine ops_split_bool (t := 106) (fun _ => rfl) rfl (fun hk3 => ?_) (fun hk3 => ?_)
                  ·
                    refine op_wg (fun _ => rfl) (p_move (fun _ => rfl)) rfl rfl ?_
                    refine op_e (w_callR (vs := [_]) (fun _ => rfl) Tryz.call16 (fun _ => rfl) rfl (sn_gen s2 sp c a np b ss2 sc1 so2 sca1 sdb2 hR2) (by repeat (first | exact Pull.nil _ | (apply Pull.cons; (focus (repeat (first | exact One.here _ _ | apply One.there))))))) (fun _ => rfl) rfl rfl ?_
                    rintro _ _ ⟨rfl, rfl⟩
                    first | refine op_wg (fun _ => rfl) (p_eql_nat (n := 1) (fun _ => rfl) (fun _ => rfl)) rfl rfl ?_ | refine op_wg (fun _ => rfl) (p_eql (fun _ => rfl) (fun _ => rfl)) rfl rfl ?_
                    refine op_w (p_pick_t (fun _ => rfl) (fun _ => rfl)) rfl rfl ?_
                    refine op_w (p_assign (fun _ => rfl)) rfl rfl ?_
                    refine ops_nil ?_
                    refine nx_slots (env' := [(6, _)]) [6] rfl (fun _ => rfl) ?_
                    refine nx_next ?_
                    refine at_ret ?_
                    refine nx_thru (by intro h; cases h) ?_
                    refine nx_end1 (H' := _) rfl Tryz.results4 (fun _ => rfl) (by exact ⟨by rw [decide_eq_true (by omega)], rfl⟩) ?hp_5
                    case hp_5 => repeat (first | exact Sub.refl _ | exact Sub.nil _ | (apply Sub.cons; (focus (repeat (first | exact One.here _ _ | apply One.there)))) | refine Sub.drop _ ?_)
                  ·
                    exfalso; exact hk3 (by simp only [List.length_map]; rw [hi2]; exact hiA)
                ·
                  exfalso; first | exact hk2 rfl | (cases hk2; done) | contradiction | omega | (simp at hk2; done) | (simp at hk2; omega) | (simp_all; done) | (simp_all; omega)
              ·
                exfalso; first | exact hk1 rfl | (cases hk1; done) | contradiction | omega | (simp at hk1; done) | (simp at hk1; omega) | (simp_all; done) | (simp_all; omega)
            ·
              obtain ⟨_, rfl, hg2, hi2, hz2, hoc2, hod2, hl2, hR2⟩ := hx2.resolve_left (fun h => by have := h.1; omega)
              have hlo2 : s2.od.vi.length = sizeN n := by rw [hod2]; exact hlA
              refine at_skip ?_
              refine nx_next ?_
              refine at_seq ?_
              refine at_seq ?_
              refine at_region ?_
              refine op_w (p_move (fun _ => rfl)) rfl rfl ?_
              first | refine op_w (p_neq_nat (n := 0) (fun _ => rfl) (fun _ => rfl)) rfl rfl ?_ | refine op_w (p_neq (fun _ => rfl) (fun _ => rfl)) rfl rfl ?_
              refine op_w (p_move (fun _ => rfl)) rfl rfl ?_
              first | refine ops_split (t := 113) (fun _ => rfl) rfl (fun hm1 => ?_) (fun hm1 => ?_) | refine ops_split_bool (t := 113) (fun _ => rfl) rfl (fun hm1 => ?_) (fun hm1 => ?_)
              ·
                exfalso; first | exact hm1 rfl | (cases hm1; done) | contradiction | omega | (simp at hm1; done) | (simp at hm1; omega) | (simp_all; done) | (simp_all; omega)
              ·
                refine op_wg (fun _ => rfl) (p_move (fun _ => rfl)) rfl rfl ?_
                refine op_e (w_callR (vs := [_]) (fun _ => rfl) Tryz.call17 (fun _ => rfl) rfl (sn_room s2 sp np b c a ss2 so2 sc1 sdb2 sca1 hS2 hR2) (by repeat (first | exact Pull.nil _ | (apply Pull.cons; (focus (repeat (first | exact One.here _ _ | apply One.there))))))) (fun _ => rfl) rfl rfl ?_
                rintro _ _ ⟨rfl, rfl⟩
                refine op_wg (fun _ => rfl) (p_move (fun _ => rfl)) rfl rfl ?_
                refine op_e (w_callR (vs := [_]) (fun _ => rfl) Tryz.call9 (fun _ => rfl) rfl (size_law n h1 h2) (by repeat (first | exact Pull.nil _ | (apply Pull.cons; (focus (repeat (first | exact One.here _ _ | apply One.there))))))) (fun _ => rfl) rfl rfl ?_
                rintro _ _ ⟨rfl, rfl⟩
                refine op_wg (fun _ => rfl) (p_move (fun _ => rfl)) rfl rfl ?_
                first | (refine op_wg (fun _ => rfl) (p_sub_nat (fun _ => rfl) (fun _ => rfl) ?_ ?_) rfl rfl ?_; (focus (omega)); (focus (omega))) | (refine op_wg (fun _ => rfl) (p_sub (fun _ => rfl) (fun _ => rfl) (IntWalk.i64_in _ ?_)) rfl rfl ?_; (focus (omega)))
                first | refine op_wg (fun _ => rfl) (p_neq_nat (fun _ => rfl) (fun _ => rfl)) rfl rfl ?_ | refine op_wg (fun _ => rfl) (p_neq (fun _ => rfl) (fun _ => rfl)) rfl rfl ?_
                refine op_w (p_pick_f (fun _ => rfl) (fun _ => rfl)) rfl rfl ?_
                refine op_w (p_move (fun _ => rfl)) rfl rfl ?_
                first | refine ops_split (t := 122) (fun _ => rfl) rfl (fun hm2 => ?_) (fun hm2 => ?_) | refine ops_split_bool (t := 122) (fun _ => rfl) rfl (fun hm2 => ?_) (fun hm2 => ?_)
                ·
                  exfalso; first | exact hm2 rfl | (cases hm2; done) | contradiction | omega | (simp at hm2; done) | (simp at hm2; omega) | (simp_all; done) | (simp_all; omega)
                ·
                  refine op_wg (fun _ => rfl) (p_move (fun _ => rfl)) rfl rfl ?_
                  refine ops_eff (fun _ => rfl) (fits_of rfl) rfl (w_call (vs := [_]) (fun _ => rfl) Tryz.call14 (fun _ => rfl) rfl (sn_items s2 sp np b c a ss2 so2 sc1 sdb2 sca1 hS2 hR2) (by repeat (first | exact Pull.nil _ | (apply Pull.cons; (focus (repeat (first | exact One.here _ _ | apply One.there))))))) ?_ no_pan
                  rintro _ _ ⟨_, ⟨sv2, hv2, rfl⟩, rfl⟩
                  refine op_wg (fun _ => rfl) (p_move (fun _ => rfl)) rfl rfl ?_
                  refine op_e (w_callR (vs := [_, _]) (fun _ => rfl) Tryz.call15 (fun _ => rfl) rfl (same_rows hv2 hf (by have := hS2.len hR2; omega)) (by repeat (first | exact Pull.nil _ | (apply Pull.cons; (focus (repeat (first | exact One.here _ _ | apply One.there))))))) (fun _ => rfl) rfl rfl ?_
                  rintro _ _ ⟨rfl, rfl⟩
                  first | refine op_wg (fun _ => rfl) (p_not_dec (fun _ => rfl)) rfl rfl ?_ | refine op_wg (fun _ => rfl) (p_not (fun _ => rfl)) rfl rfl ?_
                  refine op_w (p_pick_f (fun _ => rfl) (fun _ => rfl)) rfl rfl ?_
                  refine op_w (p_move (fun _ => rfl)) rfl rfl ?_
                  first | refine ops_split (t := 129) (fun _ => rfl) rfl (fun hm3 => ?_) (fun hm3 => ?_) | refine ops_split_bool (t := 129) (fun _ => rfl) rfl (fun hm3 => ?_) (fun hm3 => ?_)
                  ·
                    exfalso; rw [hi2] at hm3; simp at hm3
                  ·
                    refine op_wg (fun _ => rfl) (p_move (fun _ => rfl)) rfl rfl ?_
                    refine op_e (w_callR (vs := [_]) (fun _ => rfl) Tryz.call16 (fun _ => rfl) rfl (sn_gen s2 sp np b c a ss2 so2 sc1 sdb2 sca1 hR2) (by repeat (first | exact Pull.nil _ | (apply Pull.cons; (focus (repeat (first | exact One.here _ _ | apply One.there))))))) (fun _ => rfl) rfl rfl ?_
                    rintro _ _ ⟨rfl, rfl⟩
                    first | refine op_wg (fun _ => rfl) (p_neq_nat (n := 2) (fun _ => rfl) (fun _ => rfl)) rfl rfl ?_ | refine op_wg (fun _ => rfl) (p_neq (fun _ => rfl) (fun _ => rfl)) rfl rfl ?_
                    refine op_w (p_pick_f (fun _ => rfl) (fun _ => rfl)) rfl rfl ?_
                    refine ops_nil ?_
                    refine nx_slots (env' := [(0, _), (7, _), (12, _), (133, _)]) [0, 7, 12, 133] rfl (fun _ => rfl) ?_
                    refine nx_next ?_
                    first | refine at_if (fun _ => rfl) (fun hm4 => ?_) (fun hm4 => ?_) | refine at_if_bool (fun _ => rfl) (fun hm4 => ?_) (fun hm4 => ?_)
                    ·
                      exfalso; first | exact hm4 rfl | (cases hm4; done) | contradiction | omega | (simp at hm4; done) | (simp at hm4; omega) | (simp_all; done) | (simp_all; omega)
                    ·
                      refine at_skip ?_
                      refine nx_next ?_
                      refine at_seq ?_
                      refine at_nil ?_
                      refine at_region ?_
                      refine op_w (p_move (fun _ => rfl)) rfl rfl ?_
                      refine ops_eff (fun _ => rfl) (fits_of rfl) rfl (w_call (vs := [_, _]) (fun _ => rfl) Tryz.call11 (fun _ => rfl) rfl (sn_compact s2 sp np b c a ss2 so2 sc1 sdb2 sca1 [] _ [] pa Tx Tg zx zg hS2 hR2 (row_nil _) (by simp) rfl (by omega)) (by repeat (first | exact Pull.nil _ | (apply Pull.cons; (focus (repeat (first | exact One.here _ _ | apply One.there))))))) ?_ no_pan
                      rintro _ _ ⟨_, ⟨e3, s3, np3, ss3, so3, sca3, rfl, hS3, rfl, hx3⟩, rfl⟩
                      rw [hg2, show (2 : Nat) + 1 = 3 from rfl, recs_three, hlo2] at hx3
                      obtain ⟨_, rfl, hg3, hi3, hz3, hoc3, hod3, hl3, hR3⟩ := hx3.resolve_left (fun h => by have := h.1; omega)
                      refine op_w (p_assign (fun _ => rfl)) rfl rfl ?_
                      refine ops_nil ?_
                      refine nx_slots (env' := [(0, _), (7, _), (12, _), (19, _)]) [0, 7, 12, 19] rfl (fun _ => rfl) ?_
                      refine nx_next ?_
                      refine at_seq ?_
                      refine at_region ?_
                      refine op_w (p_move (fun _ => rfl)) rfl rfl ?_
                      refine op_w (p_move (fun _ => rfl)) rfl rfl ?_
                      refine ops_split_bool (t := 137) (fun _ => rfl) rfl (fun hn1 => ?_) (fun hn1 => ?_)
                      ·
                        refine op_wg (fun _ => rfl) (p_move (fun _ => rfl)) rfl rfl ?_
                        first | refine op_wg (fun _ => rfl) (p_eql_nat (n := 0) (fun _ => rfl) (fun _ => rfl)) rfl rfl ?_ | refine op_wg (fun _ => rfl) (p_eql (fun _ => rfl) (fun _ => rfl)) rfl rfl ?_
                        refine op_w (p_pick_t (fun _ => rfl) (fun _ => rfl)) rfl rfl ?_
                        refine op_w (p_move (fun _ => rfl)) rfl rfl ?_
                        first | refine ops_split (t := 141) (fun _ => rfl) rfl (fun hn2 => ?_) (fun hn2 => ?_) | refine ops_split_bool (t := 141) (fun _ => rfl) rfl (fun hn2 => ?_) (fun hn2 => ?_)
                        ·
                          refine op_wg (fun _ => rfl) (p_move (fun _ => rfl)) rfl rfl ?_
                          refine op_e (w_callR (vs := [_]) (fun _ => rfl) Tryz.call16 (fun _ => rfl) rfl (sn_gen s3 sp np3 a np b ss3 so3 so2 sca3 sdb2 hR3) (by repeat (first | exact Pull.nil _ | (apply Pull.cons; (focus (repeat (first | exact One.here _ _ | apply One.there))))))) (fun _ => rfl) rfl rfl ?_
                          rintro _ _ ⟨rfl, rfl⟩
                          first | refine op_wg (fun _ => rfl) (p_eql_nat (n := 3) (fun _ => rfl) (fun _ => rfl)) rfl rfl ?_ | refine op_wg (fun _ => rfl) (p_eql (fun _ => rfl) (fun _ => rfl)) rfl rfl ?_
                          refine op_w (p_pick_t (fun _ => rfl) (fun _ => rfl)) rfl rfl ?_
                          refine op_w (p_move (fun _ => rfl)) rfl rfl ?_
                          first | refine ops_split (t := 146) (fun _ => rfl) rfl (fun hn3 => ?_) (fun hn3 => ?_) | refine ops_split_bool (t := 146) (fun _ => rfl) rfl (fun hn3 => ?_) (fun hn3 => ?_)
                          ·
                            refine op_wg (fun _ => rfl) (p_move (fun _ => rfl)) rfl rfl ?_
                            refine ops_eff (fun _ => rfl) (fits_of rfl) rfl (w_call (vs := [_]) (fun _ => rfl) Tryz.call14 (fun _ => rfl) rfl (sn_items s3 sp np3 a np b ss3 so3 so2 sca3 sdb2 hS3 hR3) (by repeat (first | exact Pull.nil _ | (apply Pull.cons; (focus (repeat (first | exact One.here _ _ | apply One.there))))))) ?_ no_pan
                            rintro _ _ ⟨_, ⟨sv3, hv3, rfl⟩, rfl⟩
                            obtain ⟨gv3, cv3, rfl⟩ := hv3.form
                            refine op_wg (fun _ => rfl) (p_len_slice Tryz.underlying34 (fun _ => rfl)) rfl rfl ?_
                            first | refine op_wg (fun _ => rfl) (p_eql_nat (n := 0) (fun _ => rfl) (fun _ => rfl)) rfl rfl ?_ | refine op_wg (fun _ => rfl) (p_eql (fun _ => rfl) (fun _ => rfl)) rfl rfl ?_
                            refine op_w (p_pick_t (fun _ => rfl) (fun _ => rfl)) rfl rfl ?_
                            refine op_w (p_move (fun _ => rfl)) rfl rfl ?_
                            first | refine ops_split (t := 152) (fun _ => rfl) rfl (fun hn4 => ?_) (fun hn4 => ?_) | refine ops_split_bool (t := 152) (fun _ => rfl) rfl (fun hn4 => ?_) (fun hn4 => ?_)
                            ·
                              refine op_wg (fun _ => rfl) (p_move (fun _ => rfl)) rfl rfl ?_
                              refine op_e (w_callR (vs := [_]) (fun _ => rfl) Tryz.call17 (fun _ => rfl) rfl (sn_room s3 sp np3 a np b ss3 so3 so2 sca3 sdb2 hS3 hR3) (by repeat (first | exact Pull.nil _ | (apply Pull.cons; (focus (repeat (first | exact One.here _ _ | apply One.there))))))) (fun _ => rfl) rfl rfl ?_
                              rintro _ _ ⟨rfl, rfl⟩
                              refine op_wg (fun _ => rfl) (p_move (fun _ => rfl)) rfl rfl ?_
                              refine op_e (w_callR (vs := [_]) (fun _ => rfl) Tryz.call9 (fun _ => rfl) rfl (size_law n h1 h2) (by repeat (first | exact Pull.nil _ | (apply Pull.cons; (focus (repeat (first | exact One.here _ _ | apply One.there))))))) (fun _ => rfl) rfl rfl ?_
                              rintro _ _ ⟨rfl, rfl⟩
                              first | (refine op_wg (fun _ => rfl) (p_sub_nat (n := 36) (fun _ => rfl) (fun _ => rfl) ?_ ?_) rfl rfl ?_; (focus (omega)); (focus (omega))) | (refine op_wg (fun _ => rfl) (p_sub (fun _ => rfl) (fun _ => rfl) (IntWalk.i64_in _ ?_)) rfl rfl ?_; (focus (omega)))
                              first | refine op_wg (fun _ => rfl) (p_eql_nat (fun _ => rfl) (fun _ => rfl)) rfl rfl ?_ | refine op_wg (fun _ => rfl) (p_eql (fun _ => rfl) (fun _ => rfl)) rfl rfl ?_
                              refine op_w (p_pick_t (fun _ => rfl) (fun _ => rfl)) rfl rfl ?_
                              refine op_w (p_assign (fun _ => rfl)) rfl rfl ?_
                              refine ops_nil ?_
                              refine nx_slots (env' := [(6, _)]) [6] rfl (fun _ => rfl) ?_
                              refine nx_next ?_
                              refine at_ret ?_
                              refine nx_end1 (H' := _) rfl Tryz.results4 (fun _ => rfl) (by exact ⟨by rw [decide_eq_true (by omega)], rfl⟩) ?hp_6
                              case hp_6 => repeat (first | exact Sub.refl _ | exact Sub.nil _ | (apply Sub.cons; (focus (repeat (first | exact One.here _ _ | apply One.there)))) | refine Sub.drop _ ?_)
                            ·
                              exfalso; exact hn4 (by rw [hi3]; rfl)
                          ·
                            exfalso; first | exact hn3 rfl | (cases hn3; done) | contradiction | omega | (simp at hn3; done) | (simp at hn3; omega) | (simp_all; done) | (simp_all; omega)
                        ·
                          exfalso; first | exact hn2 rfl | (cases hn2; done) | contradiction | omega | (simp at hn2; done) | (simp at hn2; omega) | (simp_all; done) | (simp_all; omega)
                      ·
                        exfalso; first | exact hn1 rfl | (cases hn1; done) | contradiction | omega | (simp at hn1; done) | (simp at hn1; omega) | (simp_all; done) | (simp_all; omega)
        ·
          have hit1 : s1.its.length = (i + 1) * ks.length := by
            rcases hx1 with ⟨_, h, _⟩ | ⟨_, _, h, _⟩
            · exact absurd h (by omega)
            · rw [h, List.length_append, hit, Nat.add_mul, Nat.one_mul]
          refine at_skip ?_
          refine nx_next ?_
          refine at_region ?_
          refine op_w (p_move (fun _ => rfl)) rfl rfl ?_
          first | (refine op_w (p_add_nat (n := 1) (fun _ => rfl) (fun _ => rfl) ?_) rfl rfl ?_; (focus (omega))) | (refine op_w (p_add (fun _ => rfl) (fun _ => rfl) (IntWalk.i64_in _ ?_)) rfl rfl ?_; (focus (omega)))
          refine op_w (p_assign (fun _ => rfl)) rfl rfl ?_
          refine ops_nil ?_
          refine nx_slots (env' := [(0, _), (1, _), (2, _), (7, _), (12, _), (14, _), (15, _)]) [0, 1, 2, 7, 12, 14, 15] rfl (fun _ => rfl) ?_
          refine nx_block_normal ?_
          refine nx_next ?_
          refine at_region ?_
          refine op_w (p_move (fun _ => rfl)) rfl rfl ?_
          first | (refine op_w (p_add_nat (n := 1) (fun _ => rfl) (fun _ => rfl) ?_) rfl rfl ?_; (focus (omega))) | (refine op_w (p_add (fun _ => rfl) (fun _ => rfl) (IntWalk.i64_in _ ?_)) rfl rfl ?_; (focus (omega)))
          refine op_w (p_assign (fun _ => rfl)) rfl rfl ?_
          refine ops_nil ?_
          refine nx_slots (env' := [(0, _), (1, _), (2, _), (7, _), (12, _), (14, _), (15, _)]) [0, 1, 2, 7, 12, 14, 15] rfl (fun _ => rfl) ?_
          refine nx_slots (env' := [(14, _), (15, _), (0, _), (1, _), (2, _), (7, _), (12, _)]) [14, 15, 0, 1, 2, 7, 12] rfl (fun _ => rfl) ?_
          refine nx_againB (e' := [(14, _), (15, _)]) (m := _) (H' := _) (by exact ⟨i + 1, s1, _, _, _, rfl, ⟨by omega, hS1, by omega, hit1, by omega, by rw [hod1]; exact hod, hR1⟩, rfl, rfl⟩) ?hm_7 ?hp_7
          case hm_7 => omega
          case hp_7 => repeat (first | exact Sub.refl _ | exact Sub.nil _ | (apply Sub.cons; (focus (repeat (first | exact One.here _ _ | apply One.there)))) | refine Sub.drop _ ?_)
      ·
        obtain ⟨s1, rfl⟩ : ∃ x, x = s := ⟨_, rfl⟩
        obtain ⟨ss1, rfl⟩ : ∃ x, x = ss := ⟨_, rfl⟩
        obtain ⟨sc1, rfl⟩ : ∃ x, x = sc := ⟨_, rfl⟩
        obtain ⟨sca1, rfl⟩ : ∃ x, x = sca := ⟨_, rfl⟩
        have hS1 := hS
        have hR1 := hR
        have hgA := hg
        have hlA := hl
        have hoA := hod
        have hiA := hit
        refine at_exit ?_
        refine nx_thru (by intro h; cases h) ?_
        refine nx_thru (by intro h; cases h) ?_
        refine nx_block_exit ?_
        refine nx_next ?_
        refine at_seq ?_
        refine at_region ?_
        refine op_w (p_assign (fun _ => rfl)) rfl rfl ?_
        refine ops_nil ?_
        refine nx_slots (env' := [(0, _), (1, _), (7, _), (12, _), (14, _), (16, _)]) [0, 1, 7, 12, 14, 16] rfl (fun _ => rfl) ?_
        refine nx_next ?_
        refine at_seq ?_
        refine at_seq ?_
        refine at_region ?_
        refine op_w (p_assign (fun _ => rfl)) rfl rfl ?_
        refine ops_nil ?_
        refine nx_slots (env' := [(0, _), (1, _), (7, _), (12, _), (14, _), (16, _), (17, _)]) [0, 1, 7, 12, 14, 16, 17] rfl (fun _ => rfl) ?_
        refine nx_next ?_
        refine at_block ?_
        refine at_slots (env' := [(16, _), (17, _), (0, _), (1, _), (7, _), (12, _), (14, _)]) [16, 17, 0, 1, 7, 12, 14] rfl (fun _ => rfl) ?_
        refine at_loopB (e0 := [(16, _), (17, _)]) (H0 := _) (n := _) (fun m e H => ∃ (k : Nat), m = ks.length - k ∧ (k ≤ ks.length ∧ (outL zero32 ((recsOf 2 ks).take (k + 1))).length ≤ 36 + 200 * k) ∧ e = [(16, .int .i64 ((outL zero32 ((recsOf 2 ks).take (k + 1))).length : Int)), (17, .int .i64 (k : Int))] ∧ H = []) (by exact ⟨0, rfl, ⟨Nat.zero_le _, by rw [recs_first]; omega⟩, by rw [recs_first]; rfl, rfl⟩) (by repeat (first | exact Pull.nil _ | (apply Pull.cons; (focus (repeat (first | exact One.here _ _ | apply One.there)))))) ?_
        rintro _ _ _ ⟨k, rfl, ⟨hk, hsum⟩, rfl, rfl⟩
        refine at_seq ?_
        refine at_seq ?_
        refine at_region ?_
        refine op_w (p_move (fun _ => rfl)) rfl rfl ?_
        refine op_w (p_move (fun _ => rfl)) rfl rfl ?_
        refine op_w (p_len_slice Tryz.underlying34 (fun _ => rfl)) rfl rfl ?_
        first | refine op_w (p_lss_nat (fun _ => rfl) (fun _ => rfl)) rfl rfl ?_ | refine op_w (p_lss (fun _ => rfl) (fun _ => rfl)) rfl rfl ?_
        refine ops_nil ?_
        refine nx_slots (env' := [(0, _), (1, _), (7, _), (12, _), (14, _), (16, _), (17, _), (63, _)]) [0, 1, 7, 12, 14, 16, 17, 63] rfl (fun _ => rfl) ?_
        refine nx_next ?_
        first | refine at_if (fun _ => rfl) (fun hlk => ?_) (fun hlk => ?_) | refine at_if_bool (fun _ => rfl) (fun hlk => ?_) (fun hlk => ?_)
        ·
          rw [List.length_map] at hlk
          refine at_skip ?_
          refine nx_next ?_
          refine at_seq ?_
          refine at_block ?_
          refine at_seq ?_
          obtain ⟨x, hx⟩ : ∃ x, ks[k]? = some x := ⟨_, List.getElem?_eq_getElem hlk⟩
          have hx100 := hk100 x (List.mem_of_getElem? hx)
          obtain ⟨gk, ck, curk, zk, hvk, rfl, hink⟩ := row_in hf (by rw [List.length_map]; omega)
          injection hvk with e1 e2 e3
          subst e1 e3
          have hcell := cellAt hink hx
          have hil : (itm x).length = x.length + 1 := by unfold itm; rw [List.length_cons]
          have hsn := outT_snoc zero32 (recsOf 2 ks) (k + 1) (itm x) (recs_at k ks 2 x hx) (by omega)
          have hsx := str_size x
          obtain ⟨hq1, hq2⟩ := itm_enc x hx100
          refine at_region ?_
          refine op_w (p_move (fun _ => rfl)) rfl rfl ?_
          first | (refine op_w (p_add_nat (n := 34) (fun _ => rfl) (fun _ => rfl) ?_) rfl rfl ?_; (focus (omega))) | (refine op_w (p_add (fun _ => rfl) (fun _ => rfl) (IntWalk.i64_in _ ?_)) rfl rfl ?_; (focus (omega)))
          refine op_w (p_move (fun _ => rfl)) rfl rfl ?_
          refine op_w (p_move (fun _ => rfl)) rfl rfl ?_
          first | (refine op_w (p_indexAddr_nat0 Tryz.underlying34 Tryz.sizeOf9 (fun _ => rfl) (fun _ => rfl) ?_) rfl rfl ?_; (focus (first | omega | (rw [List.length_map]; omega)))) | (refine op_w (p_indexAddr_nat1 Tryz.underlying34 Tryz.sizeOf9 (fun _ => rfl) (fun _ => rfl) ?_) rfl rfl ?_; (focus (first | omega | (rw [List.length_map]; omega))))
          refine op_r (by repeat (first | exact Has.here _ | apply Has.there)) (p_load Tryz.isAgg9 (fun _ => rfl) (by first | exact hcell | (rw [Nat.mul_one]; exact hcell) | simpa using hcell)) rfl rfl ?_
          refine op_w (p_len_str Tryz.underlying9 (fun _ => rfl)) rfl rfl ?_
          first | (refine op_w (p_add_nat (fun _ => rfl) (fun _ => rfl) ?_) rfl rfl ?_; (focus (omega))) | (refine op_w (p_add (fun _ => rfl) (fun _ => rfl) (IntWalk.i64_in _ ?_)) rfl rfl ?_; (focus (omega)))
          first | (refine op_w (p_add_nat (n := 1) (fun _ => rfl) (fun _ => rfl) ?_) rfl rfl ?_; (focus (omega))) | (refine op_w (p_add (fun _ => rfl) (fun _ => rfl) (IntWalk.i64_in _ ?_)) rfl rfl ?_; (focus (omega)))
          refine op_w (p_assign (fun _ => rfl)) rfl rfl ?_
          refine ops_nil ?_
          refine nx_slots (env' := [(0, _), (1, _), (7, _), (12, _), (14, _), (16, _), (17, _)]) [0, 1, 7, 12, 14, 16, 17] rfl (fun _ => rfl) ?_
          refine nx_next ?_
          refine at_seq ?_
          refine at_region ?_
          refine op_w (p_move (fun _ => rfl)) rfl rfl ?_
          refine op_w (p_move (fun _ => rfl)) rfl rfl ?_
          first | (refine op_w (p_indexAddr_nat0 Tryz.underlying34 Tryz.sizeOf9 (fun _ => rfl) (fun _ => rfl) ?_) rfl rfl ?_; (focus (first | omega | (rw [List.length_map]; omega)))) | (refine op_w (p_indexAddr_nat1 Tryz.underlying34 Tryz.sizeOf9 (fun _ => rfl) (fun _ => rfl) ?_) rfl rfl ?_; (focus (first | omega | (rw [List.length_map]; omega))))
          refine op_r (by repeat (first | exact Has.here _ | apply Has.there)) (p_load Tryz.isAgg9 (fun _ => rfl) (by first | exact hcell | (rw [Nat.mul_one]; exact hcell) | simpa using hcell)) rfl rfl ?_
          refine op_w (p_len_str Tryz.underlying9 (fun _ => rfl)) rfl rfl ?_
          first | (refine op_w (p_add_nat (n := 1) (fun _ => rfl) (fun _ => rfl) ?_) rfl rfl ?_; (focus (omega))) | (refine op_w (p_add (fun _ => rfl) (fun _ => rfl) (IntWalk.i64_in _ ?_)) rfl rfl ?_; (focus (omega)))
          first | refine op_w (p_gtr_nat (n := 63) (fun _ => rfl) (fun _ => rfl)) rfl rfl ?_ | refine op_w (p_gtr (fun _ => rfl) (fun _ => rfl)) rfl rfl ?_
          refine ops_nil ?_
          refine nx_slots (env' := [(0, _), (1, _), (7, _), (12, _), (14, _), (16, _), (17, _), (81, _)]) [0, 1, 7, 12, 14, 16, 17, 81] rfl (fun _ => rfl) ?_
          refine nx_next ?_
          first | refine at_if (fun _ => rfl) (fun h63 => ?_) (fun h63 => ?_) | refine at_if_bool (fun _ => rfl) (fun h63 => ?_) (fun h63 => ?_)
          ·
            refine at_region ?_
            refine op_w (p_move (fun _ => rfl)) rfl rfl ?_
            first | (refine op_w (p_add_nat (n := 1) (fun _ => rfl) (fun _ => rfl) ?_) rfl rfl ?_; (focus (omega))) | (refine op_w (p_add (fun _ => rfl) (fun _ => rfl) (IntWalk.i64_in _ ?_)) rfl rfl ?_; (focus (omega)))
            refine op_w (p_assign (fun _ => rfl)) rfl rfl ?_
            refine ops_nil ?_
            refine nx_slots (env' := [(0, _), (1, _), (7, _), (12, _), (14, _), (16, _), (17, _)]) [0, 1, 7, 12, 14, 16, 17] rfl (fun _ => rfl) ?_
            refine nx_block_normal ?_
            refine nx_next ?_
            refine at_region ?_
            refine op_w (p_move (fun _ => rfl)) rfl rfl ?_
            first | (refine op_w (p_add_nat (n := 1) (fun _ => rfl) (fun _ => rfl) ?_) rfl rfl ?_; (focus (omega))) | (refine op_w (p_add (fun _ => rfl) (fun _ => rfl) (IntWalk.i64_in _ ?_)) rfl rfl ?_; (focus (omega)))
            refine op_w (p_assign (fun _ => rfl)) rfl rfl ?_
            refine ops_nil ?_
            refine nx_slots (env' := [(0, _), (1, _), (7, _), (12, _), (14, _), (16, _), (17, _)]) [0, 1, 7, 12, 14, 16, 17] rfl (fun _ => rfl) ?_
            refine nx_slots (env' := [(16, _), (17, _), (0, _), (1, _), (7, _), (12, _), (14, _)]) [16, 17, 0, 1, 7, 12, 14] rfl (fun _ => rfl) ?_
            refine nx_againB (e' := [(16, _), (17, _)]) (m := _) (H' := _) (by exact ⟨k + 1, rfl, ⟨by omega, by omega⟩, by first | rw [show (outL zero32 ((recsOf 2 ks).take (k + 1 + 1))).length = (outL zero32 ((recsOf 2 ks).take (k + 1))).length + 34 + (str x).size + 1 by omega] | rw [show (outL zero32 ((recsOf 2 ks).take (k + 1 + 1))).length = (outL zero32 ((recsOf 2 ks).take (k + 1))).length + 34 + (str x).size + 1 + 1 by omega], rfl⟩) ?hm_9 ?hp_9
            case hm_9 => omega
            case hp_9 => repeat (first | exact Sub.refl _ | exact Sub.nil _ | (apply Sub.cons; (focus (repeat (first | exact One.here _ _ | apply One.there)))) | refine Sub.drop _ ?_)
          ·
            refine at_skip ?_
            refine nx_block_normal ?_
            refine nx_next ?_
            refine at_region ?_
            refine op_w (p_move (fun _ => rfl)) rfl rfl ?_
            first | (refine op_w (p_add_nat (n := 1) (fun _ => rfl) (fun _ => rfl) ?_) rfl rfl ?_; (focus (omega))) | (refine op_w (p_add (fun _ => rfl) (fun _ => rfl) (IntWalk.i64_in _ ?_)) rfl rfl ?_; (focus (omega)))
            refine op_w (p_assign (fun _ => rfl)) rfl rfl ?_
            refine ops_nil ?_
            refine nx_slots (env' := [(0, _), (1, _), (7, _), (12, _), (14, _), (16, _), (17, _)]) [0, 1, 7, 12, 14, 16, 17] rfl (fun _ => rfl) ?_
            refine nx_slots (env' := [(16, _), (17, _), (0, _), (1, _), (7, _), (12, _), (14, _)]) [16, 17, 0, 1, 7, 12, 14] rfl (fun _ => rfl) ?_
            refine nx_againB (e' := [(16, _), (17, _)]) (m := _) (H' := _) (by exact ⟨k + 1, rfl, ⟨by omega, by omega⟩, by first | rw [show (outL zero32 ((recsOf 2 ks).take (k + 1 + 1))).length = (outL zero32 ((recsOf 2 ks).take (k + 1))).length + 34 + (str x).size + 1 by omega] | rw [show (outL zero32 ((recsOf 2 ks).take (k + 1 + 1))).length = (outL zero32 ((recsOf 2 ks).take (k + 1))).length + 34 + (str x).size + 1 + 1 by omega], rfl⟩) ?hm_10 ?hp_10
            case hm_10 => omega
            case hp_10 => repeat (first | exact Sub.refl _ | exact Sub.nil _ | (apply Sub.cons; (focus (repeat (first | exact One.here _ _ | apply One.there)))) | refine Sub.drop _ ?_)
        ·
          rw [List.length_map] at hlk
          rw [recs_all ks 2 k (by omega)] at hsum ⊢
          refine at_exit ?_
          refine nx_thru (by intro h; cases h) ?_
          refine nx_thru (by intro h; cases h) ?_
          refine nx_block_exit ?_
          refine nx_next ?_
          refine at_seq ?_
          refine at_region ?_
          refine op_w (p_move (fun _ => rfl)) rfl rfl ?_
          refine op_w (p_move (fun _ => rfl)) rfl rfl ?_
          refine ops_eff (fun _ => rfl) (fits_of rfl) rfl (w_call (vs := [_, _]) (fun _ => rfl) Tryz.call11 (fun _ => rfl) rfl (sn_compact s1 sp c a o b ss1 sc1 so0 sca1 sdb sf _ ks pa Tx Tg zx zg hS1 hR1 hf (by omega) hkb (by omega)) (by repeat (first | exact Pull.nil _ | (apply Pull.cons; (focus (repeat (first | exact One.here _ _ | apply One.there))))))) ?_ no_pan
          rintro _ _ ⟨_, ⟨e2, s2, np, ss2, so2, sdb2, rfl, hS2, rfl, hx2⟩, rfl⟩
          rw [hgA, show (1 : Nat) + 1 = 2 from rfl, hoA, hva] at hx2
          refine op_w (p_assign (fun _ => rfl)) rfl rfl ?_
          refine ops_nil ?_
          refine nx_slots (env' := [(0, _), (1, _), (7, _), (12, _), (14, _), (16, _), (18, _)]) [0, 1, 7, 12, 14, 16, 18] rfl (fun _ => rfl) ?_
          refine nx_next ?_
          refine at_seq ?_
          refine at_seq ?_
          refine at_region ?_
          refine op_w (p_move (fun _ => rfl)) rfl rfl ?_
          refine op_w (p_move (fun _ => rfl)) rfl rfl ?_
          refine op_e (w_callR (vs := [_]) (fun _ => rfl) Tryz.call9 (fun _ => rfl) rfl (size_law n h1 h2) (by repeat (first | exact Pull.nil _ | (apply Pull.cons; (focus (repeat (first | exact One.here _ _ | apply One.there))))))) (fun _ => rfl) rfl rfl ?_
          rintro _ _ ⟨rfl, rfl⟩
          first | refine op_w (p_gtr_nat (fun _ => rfl) (fun _ => rfl)) rfl rfl ?_ | refine op_w (p_gtr (fun _ => rfl) (fun _ => rfl)) rfl rfl ?_
          refine ops_nil ?_
          refine nx_slots (env' := [(0, _), (1, _), (7, _), (12, _), (14, _), (16, _), (18, _), (90, _)]) [0, 1, 7, 12, 14, 16, 18, 90] rfl (fun _ => rfl) ?_
          refine nx_next ?_
          first | refine at_if (fun _ => rfl) (fun hnd => ?_) (fun hnd => ?_) | refine at_if_bool (fun _ => rfl) (fun hnd => ?_) (fun hnd => ?_)
          ·
            obtain ⟨_, rfl, hg2, hi2, _, _, _, hR2⟩ := hx2.resolve_right (fun h => by have := h.1; omega)
            refine at_seq ?_
            refine at_region ?_
            refine op_w (p_move (fun _ => rfl)) rfl rfl ?_
            refine op_w (p_move (fun _ => rfl)) rfl rfl ?_
            refine ops_split_bool (t := 92) (fun _ => rfl) rfl (fun hk1 => ?_) (fun hk1 => ?_)
            ·
              refine op_wg (fun _ => rfl) (p_move (fun _ => rfl)) rfl rfl ?_
              first | refine op_wg (fun _ => rfl) (p_eql_nat (n := 231) (fun _ => rfl) (fun _ => rfl)) rfl rfl ?_ | refine op_wg (fun _ => rfl) (p_eql (fun _ => rfl) (fun _ => rfl)) rfl rfl ?_
              refine op_w (p_pick_t (fun _ => rfl) (fun _ => rfl)) rfl rfl ?_
              refine op_w (p_move (fun _ => rfl)) rfl rfl ?_
              first | refine ops_split (t := 96) (fun _ => rfl) rfl (fun hk2 => ?_) (fun hk2 => ?_) | refine ops_split_bool (t := 96) (fun _ => rfl) rfl (fun hk2 => ?_) (fun hk2 => ?_)
              ·
                refine op_wg (fun _ => rfl) (p_move (fun _ => rfl)) rfl rfl ?_
                refine ops_eff (fun _ => rfl) (fits_of rfl) rfl (w_call (vs := [_]) (fun _ => rfl) Tryz.call14 (fun _ => rfl) rfl (sn_items s2 sp c a np b ss2 sc1 so2 sca1 sdb2 hS2 hR2) (by repeat (first | exact Pull.nil _ | (apply Pull.cons; (focus (repeat (first | exact One.here _ _ | apply One.there))))))) ?_ no_pan
                rintro _ _ ⟨_, ⟨sv2, hv2, rfl⟩, rfl⟩
                obtain ⟨gv2, cv2, rfl⟩ := hv2.form
                refine op_wg (fun _ => rfl) (p_len_slice Tryz.underlying34 (fun _ => rfl)) rfl rfl ?_
                refine op_wg (fun _ => rfl) (p_move (fun _ => rfl)) rfl rfl ?_
                refine op_wg (fun _ => rfl) (p_move (fun _ => rfl)) rfl rfl ?_
                refine op_wg (fun _ => rfl) (p_len_slice Tryz.underlying34 (fun _ => rfl)) rfl rfl ?_
                first | (refine op_wg (fun _ => rfl) (p_mul_nat (fun _ => rfl) (fun _ => rfl) ?_) rfl rfl ?_; (focus ((simp only [List.length_map]; have : i * ks.length ≤ 30 * 6 := Nat.mul_le_mul hi hk6; omega)))) | (refine op_wg (fun _ => rfl) (p_mul (fun _ => rfl) (fun _ => rfl) (IntWalk.i64_in _ ?_)) rfl rfl ?_; (focus ((simp only [List.length_map]; have : i * ks.length ≤ 30 * 6 := Nat.mul_le_mul hi hk6; omega))))
                first | refine op_wg (fun _ => rfl) (p_eql_nat (fun _ => rfl) (fun _ => rfl)) rfl rfl ?_ | refine op_wg (fun _ => rfl) (p_eql (fun _ => rfl) (fun _ => rfl)) rfl rfl ?_
                refine op_w (p_pick_t (fun _ => rfl) (fun _ => rfl)) rfl rfl ?_
                refine op_w (p_move (fun _ => rfl)) rfl rfl ?_
                first | refine ops_split (t := 106) (fun _ => rfl) rfl (fun hk3 => ?_) (fun hk3 => ?_) | refine ops_split_bool (t := 106) (fun _ => rfl) rfl (fun hk3 => ?_) (fun hk3 => ?_)
                ·
                  refine op_wg (fun _ => rfl) (p_move (fun _ => rfl)) rfl rfl ?_
                  refine op_e (w_callR (vs := [_]) (fun _ => rfl) Tryz.call16 (fun _ => rfl) rfl (sn_gen s2 sp c a np b ss2 sc1 so2 sca1 sdb2 hR2) (by repeat (first | exact Pull.nil _ | (apply Pull.cons; (focus (repeat (first | exact One.here _ _ | apply One.there))))))) (fun _ => rfl) rfl rfl ?_
                  rintro _ _ ⟨rfl, rfl⟩
                  first | refine op_wg (fun _ => rfl) (p_eql_nat (n := 1) (fun _ => rfl) (fun _ => rfl)) rfl rfl ?_ | refine op_wg (fun _ => rfl) (p_eql (fun _ => rfl) (fun _ => rfl)) rfl rfl ?_
                  refine op_w (p_pick_t (fun _ => rfl) (fun _ => rfl)) rfl rfl ?_
                  refine op_w (p_assign (fun _ => rfl)) rfl rfl ?_
                  refine ops_nil ?_
                  refine nx_slots (env' := [(6, _)]) [6] rfl (fun _ => rfl) ?_
                  refine nx_next ?_
                  refine at_ret ?_
                  refine nx_thru (by intro h; cases h) ?_
                  refine nx_end1 (H' := _) rfl Tryz.results4 (fun _ => rfl) (by exact ⟨by rw [decide_eq_true (by omega)], rfl⟩) ?hp_11
                  case hp_11 => repeat (first | exact Sub.refl _ | exact Sub.nil _ | (apply Sub.cons; (focus (repeat (first | exact One.here _ _ | apply One.there)))) | refine Sub.drop _ ?_)
                ·
                  exfalso; exact hk3 (by simp only [List.length_map]; rw [hi2]; exact hiA)
              ·
                exfalso; first | exact hk2 rfl | (cases hk2; done) | contradiction | omega | (simp at hk2; done) | (simp at hk2; omega) | (simp_all; done) | (simp_all; omega)
            ·
              exfalso; first | exact hk1 rfl | (cases hk1; done) | contradiction | omega | (simp at hk1; done) | (simp at hk1; omega) | (simp_all; done) | (simp_all; omega)
          ·
            obtain ⟨_, rfl, hg2, hi2, hz2, hoc2, hod2, hl2, hR2⟩ := hx2.resolve_left (fun h => by have := h.1; omega)
            have hlo2 : s2.od.vi.length = sizeN n := by rw [hod2]; exact hlA
            refine at_skip ?_
            refine nx_next ?_
            refine at_seq ?_
            refine at_seq ?_
            refine at_region ?_
            refine op_w (p_move (fun _ => rfl)) rfl rfl ?_
            first | refine op_w (p_neq_nat (n := 0) (fun _ => rfl) (fun _ => rfl)) rfl rfl ?_ | refine op_w (p_neq (fun _ => rfl) (fun _ => rfl)) rfl rfl ?_
            refine op_w (p_move (fun _ => rfl)) rfl rfl ?_
            first | refine ops_split (t := 113) (fun _ => rfl) rfl (fun hm1 => ?_) (fun hm1 => ?_) | refine ops_split_bool (t := 113) (fun _ => rfl) rfl (fun hm1 => ?_) (fun hm1 => ?_)
            ·
              exfalso; first | exact hm1 rfl | (cases hm1; done) | contradiction | omega | (simp at hm1; done) | (simp at hm1; omega) | (simp_all; done) | (simp_all; omega)
            ·
              refine op_wg (fun _ => rfl) (p_move (fun _ => rfl)) rfl rfl ?_
              refine op_e (w_callR (vs := [_]) (fun _ => rfl) Tryz.call17 (fun _ => rfl) rfl (sn_room s2 sp np b c a ss2 so2 sc1 sdb2 sca1 hS2 hR2) (by repeat (first | exact Pull.nil _ | (apply Pull.cons; (focus (repeat (first | exact One.here _ _ | apply One.there))))))) (fun _ => rfl) rfl rfl ?_
              rintro _ _ ⟨rfl, rfl⟩
              refine op_wg (fun _ => rfl) (p_move (fun _ => rfl)) rfl rfl ?_
              refine op_e (w_callR (vs := [_]) (fun _ => rfl) Tryz.call9 (fun _ => rfl) rfl (size_law n h1 h2) (by repeat (first | exact Pull.nil _ | (apply Pull.cons; (focus (repeat (first | exact One.here _ _ | apply One.there))))))) (fun _ => rfl) rfl rfl ?_
              rintro _ _ ⟨rfl, rfl⟩
              refine op_wg (fun _ => rfl) (p_move (fun _ => rfl)) rfl rfl ?_
              first | (refine op_wg (fun _ => rfl) (p_sub_nat (fun _ => rfl) (fun _ => rfl) ?_ ?_) rfl rfl ?_; (focus (omega)); (focus (omega))) | (refine op_wg (fun _ => rfl) (p_sub (fun _ => rfl) (fun _ => rfl) (IntWalk.i64_in _ ?_)) rfl rfl ?_; (focus (omega)))
              first | refine op_wg (fun _ => rfl) (p_neq_nat (fun _ => rfl) (fun _ => rfl)) rfl rfl ?_ | refine op_wg (fun _ => rfl) (p_neq (fun _ => rfl) (fun _ => rfl)) rfl rfl ?_
              refine op_w (p_pick_f (fun _ => rfl) (fun _ => rfl)) rfl rfl ?_
              refine op_w (p_move (fun _ => rfl)) rfl rfl ?_
              first | refine ops_split (t := 122) (fun _ => rfl) rfl (fun hm2 => ?_) (fun hm2 => ?_) | refine ops_split_bool (t := 122) (fun _ => rfl) rfl (fun hm2 => ?_) (fun hm2 => ?_)
              ·
                exfalso; first | exact hm2 rfl | (cases hm2; done) | contradiction | omega | (simp at hm2; done) | (simp at hm2; omega) | (simp_all; done) | (simp_all; omega)
              ·
                refine op_wg (fun _ => rfl) (p_move (fun _ => rfl)) rfl rfl ?_
                refine ops_eff (fun _ => rfl) (fits_of rfl) rfl (w_call (vs := [_]) (fun _ => rfl) Tryz.call14 (fun _ => rfl) rfl (sn_items s2 sp np b c a ss2 so2 sc1 sdb2 sca1 hS2 hR2) (by repeat (first | exact Pull.nil _ | (apply Pull.cons; (focus (repeat (first | exact One.here _ _ | apply One.there))))))) ?_ no_pan
                rintro _ _ ⟨_, ⟨sv2, hv2, rfl⟩, rfl⟩
                refine op_wg (fun _ => rfl) (p_move (fun _ => rfl)) rfl rfl ?_
                refine op_e (w_callR (vs := [_, _]) (fun _ => rfl) Tryz.call15 (fun _ => rfl) rfl (same_rows hv2 hf (by have := hS2.len hR2; omega)) (by repeat (first | exact Pull.nil _ | (apply Pull.cons; (focus (repeat (first | exact One.here _ _ | apply One.there))))))) (fun _ => rfl) rfl rfl ?_
                rintro _ _ ⟨rfl, rfl⟩
                first | refine op_wg (fun _ => rfl) (p_not_dec (fun _ => rfl)) rfl rfl ?_ | refine op_wg (fun _ => rfl) (p_not (fun _ => rfl)) rfl rfl ?_
                refine op_w (p_pick_f (fun _ => rfl) (fun _ => rfl)) rfl rfl ?_
                refine op_w (p_move (fun _ => rfl)) rfl rfl ?_
                first | refine ops_split (t := 129) (fun _ => rfl) rfl (fun hm3 => ?_) (fun hm3 => ?_) | refine ops_split_bool (t := 129) (fun _ => rfl) rfl (fun hm3 => ?_) (fun hm3 => ?_)
                ·
                  exfalso; rw [hi2] at hm3; simp at hm3
                ·
                  refine op_wg (fun _ => rfl) (p_move (fun _ => rfl)) rfl rfl ?_
                  refine op_e (w_callR (vs := [_]) (fun _ => rfl) Tryz.call16 (fun _ => rfl) rfl (sn_gen s2 sp np b c a ss2 so2 sc1 sdb2 sca1 hR2) (by repeat (first | exact Pull.nil _ | (apply Pull.cons; (focus (repeat (first | exact One.here _ _ | apply One.there))))))) (fun _ => rfl) rfl rfl ?_
                  rintro _ _ ⟨rfl, rfl⟩
                  first | refine op_wg (fun _ => rfl) (p_neq_nat (n := 2) (fun _ => rfl) (fun _ => rfl)) rfl rfl ?_ | refine op_wg (fun _ => rfl) (p_neq (fun _ => rfl) (fun _ => rfl)) rfl rfl ?_
                  refine op_w (p_pick_f (fun _ => rfl) (fun _ => rfl)) rfl rfl ?_
                  refine ops_nil ?_
                  refine nx_slots (env' := [(0, _), (7, _), (12, _), (133, _)]) [0, 7, 12, 133] rfl (fun _ => rfl) ?_
                  refine nx_next ?_
                  first | refine at_if (fun _ => rfl) (fun hm4 => ?_) (fun hm4 => ?_) | refine at_if_bool (fun _ => rfl) (fun hm4 => ?_) (fun hm4 => ?_)
                  ·
                    exfalso; first | exact hm4 rfl | (cases hm4; done) | contradiction | omega | (simp at hm4; done) | (simp at hm4; omega) | (simp_all; done) | (simp_all; omega)
                  ·
                    refine at_skip ?_
                    refine nx_next ?_
                    refine at_seq ?_
                    refine at_nil ?_
                    refine at_region ?_
                    refine op_w (p_move (fun _ => rfl)) rfl rfl ?_
                    refine ops_eff (fun _ => rfl) (fits_of rfl) rfl (w_call (vs := [_, _]) (fun _ => rfl) Tryz.call11 (fun _ => rfl) rfl (sn_compact s2 sp np b c a ss2 so2 sc1 sdb2 sca1 [] _ [] pa Tx Tg zx zg hS2 hR2 (row_nil _) (by simp) rfl (by omega)) (by repeat (first | exact Pull.nil _ | (apply Pull.cons; (focus (repeat (first | exact One.here _ _ | apply One.there))))))) ?_ no_pan
                    rintro _ _ ⟨_, ⟨e3, s3, np3, ss3, so3, sca3, rfl, hS3, rfl, hx3⟩, rfl⟩
                    rw [hg2, show (2 : Nat) + 1 = 3 from rfl, recs_three, hlo2] at hx3
                    obtain ⟨_, rfl, hg3, hi3, hz3, hoc3, hod3, hl3, hR3⟩ := hx3.resolve_left (fun h => by have := h.1; omega)
                    refine op_w (p_assign (fun _ => rfl)) rfl rfl ?_
                    refine ops_nil ?_
                    refine nx_slots (env' := [(0, _), (7, _), (12, _), (19, _)]) [0, 7, 12, 19] rfl (fun _ => rfl) ?_
                    refine nx_next ?_
                    refine at_seq ?_
                    refine at_region ?_
                    refine op_w (p_move (fun _ => rfl)) rfl rfl ?_
                    refine op_w (p_move (fun _ => rfl)) rfl rfl ?_
                    refine ops_split_bool (t := 137) (fun _ => rfl) rfl (fun hn1 => ?_) (fun hn1 => ?_)
                    ·
                      refine op_wg (fun _ => rfl) (p_move (fun _ => rfl)) rfl rfl ?_
                      first | refine op_wg (fun _ => rfl) (p_eql_nat (n := 0) (fun _ => rfl) (fun _ => rfl)) rfl rfl ?_ | refine op_wg (fun _ => rfl) (p_eql (fun _ => rfl) (fun _ => rfl)) rfl rfl ?_
                      refine op_w (p_pick_t (fun _ => rfl) (fun _ => rfl)) rfl rfl ?_
                      refine op_w (p_move (fun _ => rfl)) rfl rfl ?_
                      first | refine ops_split (t := 141) (fun _ => rfl) rfl (fun hn2 => ?_) (fun hn2 => ?_) | refine ops_split_bool (t := 141) (fun _ => rfl) rfl (fun hn2 => ?_) (fun hn2 => ?_)
                      ·
                        refine op_wg (fun _ => rfl) (p_move (fun _ => rfl)) rfl rfl ?_
                        refine op_e (w_callR (vs := [_]) (fun _ => rfl) Tryz.call16 (fun _ => rfl) rfl (sn_gen s3 sp np3 a np b ss3 so3 so2 sca3 sdb2 hR3) (by repeat (first | exact Pull.nil _ | (apply Pull.cons; (focus (repeat (first | exact One.here _ _ | apply One.there))))))) (fun _ => rfl) rfl rfl ?_
                        rintro _ _ ⟨rfl, rfl⟩
                        first | refine op_wg (fun _ => rfl) (p_eql_nat (n := 3) (fun _ => rfl) (fun _ => rfl)) rfl rfl ?_ | refine op_wg (fun _ => rfl) (p_eql (fun _ => rfl) (fun _ => rfl)) rfl rfl ?_
                        refine op_w (p_pick_t (fun _ => rfl) (fun _ => rfl)) rfl rfl ?_
                        refine op_w (p_move (fun _ => rfl)) rfl rfl ?_
                        first | refine ops_split (t := 146) (fun _ => rfl) rfl (fun hn3 => ?_) (fun hn3 => ?_) | refine ops_split_bool (t := 146) (fun _ => rfl) rfl (fun hn3 => ?_) (fun hn3 => ?_)
                        ·
                          refine op_wg (fun _ => rfl) (p_move (fun _ => rfl)) rfl rfl ?_
                          refine ops_eff (fun _ => rfl) (fits_of rfl) rfl (w_call (vs := [_]) (fun _ => rfl) Tryz.call14 (fun _ => rfl) rfl (sn_items s3 sp np3 a np b ss3 so3 so2 sca3 sdb2 hS3 hR3) (by repeat (first | exact Pull.nil _ | (apply Pull.cons; (focus (repeat (first | exact One.here _ _ | apply One.there))))))) ?_ no_pan
                          rintro _ _ ⟨_, ⟨sv3, hv3, rfl⟩, rfl⟩
                          obtain ⟨gv3, cv3, rfl⟩ := hv3.form
                          refine op_wg (fun _ => rfl) (p_len_slice Tryz.underlying34 (fun _ => rfl)) rfl rfl ?_
                          first | refine op_wg (fun _ => rfl) (p_eql_nat (n := 0) (fun _ => rfl) (fun _ => rfl)) rfl rfl ?_ | refine op_wg (fun _ => rfl) (p_eql (fun _ => rfl) (fun _ => rfl)) rfl rfl ?_
                          refine op_w (p_pick_t (fun _ => rfl) (fun _ => rfl)) rfl rfl ?_
                          refine op_w (p_move (fun _ => rfl)) rfl rfl ?_
                          first | refine ops_split (t := 152) (fun _ => rfl) rfl (fun hn4 => ?_) (fun hn4 => ?_) | refine ops_split_bool (t := 152) (fun _ => rfl) rfl (fun hn4 => ?_) (fun hn4 => ?_)
                          ·
                            refine op_wg (fun _ => rfl) (p_move (fun _ => rfl)) rfl rfl ?_
                            refine op_e (w_callR (vs := [_]) (fun _ => rfl) Tryz.call17 (fun _ => rfl) rfl (sn_room s3 sp np3 a np b ss3 so3 so2 sca3 sdb2 hS3 hR3) (by repeat (first | exact Pull.nil _ | (apply Pull.cons; (focus (repeat (first | exact One.here _ _ | apply One.there))))))) (fun _ => rfl) rfl rfl ?_
                            rintro _ _ ⟨rfl, rfl⟩
                            refine op_wg (fun _ => rfl) (p_move (fun _ => rfl)) rfl rfl ?_
                            refine op_e (w_callR (vs := [_]) (fun _ => rfl) Tryz.call9 (fun _ => rfl) rfl (size_law n h1 h2) (by repeat (first | exact Pull.nil _ | (apply Pull.cons; (focus (repeat (first | exact One.here _ _ | apply One.there))))))) (fun _ => rfl) rfl rfl ?_
                            rintro _ _ ⟨rfl, rfl⟩
                            first | (refine op_wg (fun _ => rfl) (p_sub_nat (n := 36) (fun _ => rfl) (fun _ => rfl) ?_ ?_) rfl rfl ?_; (focus (omega)); (focus (omega))) | (refine op_wg (fun _ => rfl) (p_sub (fun _ => rfl) (fun _ => rfl) (IntWalk.i64_in _ ?_)) rfl rfl ?_; (focus (omega)))
                            first | refine op_wg (fun _ => rfl) (p_eql_nat (fun _ => rfl) (fun _ => rfl)) rfl rfl ?_ | refine op_wg (fun _ => rfl) (p_eql (fun _ => rfl) (fun _ => rfl)) rfl rfl ?_
                            refine op_w (p_pick_t (fun _ => rfl) (fun _ => rfl)) rfl rfl ?_
                            refine op_w (p_assign (fun _ => rfl)) rfl rfl ?_
                            refine ops_nil ?_
                            refine nx_slots (env' := [(6, _)]) [6] rfl (fun _ => rfl) ?_
                            refine nx_next ?_
                            refine at_ret ?_
                            refine nx_end1 (H' := _) rfl Tryz.results4 (fun _ => rfl) (by exact ⟨by rw [decide_eq_true (by omega)], rfl⟩) ?hp_12
                            case hp_12 => repeat (first | exact Sub.refl _ | exact Sub.nil _ | (apply Sub.cons; (focus (repeat (first | exact One.here _ _ | apply One.there)))) | refine Sub.drop _ ?_)
                          ·
                            exfalso; exact hn4 (by rw [hi3]; rfl)
                        ·
                          exfalso; first | exact hn3 rfl | (cases hn3; done) | contradiction | omega | (simp at hn3; done) | (simp at hn3; omega) | (simp_all; done) | (simp_all; omega)
                      ·
                        exfalso; first | exact hn2 rfl | (cases hn2; done) | contradiction | omega | (simp at hn2; done) | (simp at hn2; omega) | (simp_all; done) | (simp_all; omega)
                    ·
                      exfalso; first | exact hn1 rfl | (cases hn1; done) | contradiction | omega | (simp at hn1; done) | (simp at hn1; omega) | (simp_all; done) | (simp_all; omega)

end Go.Proofs.YtohgibkpkknfnaaGreatDoor
