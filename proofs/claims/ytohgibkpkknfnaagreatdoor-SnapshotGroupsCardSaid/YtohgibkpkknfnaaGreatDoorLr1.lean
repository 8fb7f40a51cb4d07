/- SnapshotRefuses: the law. -/
import Derived.Test.YtohgibkpkknfnaaGreatDoorSn3
import Derived.Test.YtohgibkpkknfnaaGreatDoorTl2
namespace Go.Proofs.YtohgibkpkknfnaaGreatDoor
open Go Go.RowKit Gw
set_option linter.unusedVariables false
set_option maxRecDepth 100000
attribute [local irreducible] Gw.At Gw.Nx Gw.Ops
theorem outL_bound (B : Nat) : ∀ (ls : List (List UInt8)) (h : List UInt8), B ≤ 65536 → (∀ r ∈ ls, r.length ≤ B) → (outL h ls).length ≤ ls.length * (B + 42)
  | [], h, _, _ => by simp [outL]
  | x :: t, h, hB, hl => by
    have h1 := recS_len h x (by have := hl x (by simp); omega)
    have h2 := outL_bound B t (chainS h x) hB (fun r hr => hl r (by simp [hr]))
    have h3 := encI_len x.length (by have := hl x (by simp); omega) (by have := hl x (by simp); omega)
    have h4 := hl x (by simp)
    have h5 : (encS x).length = (encI x.length).length + x.length := by unfold encS; rw [List.length_append]
    simp only [outL, List.length_append, List.length_cons, Nat.add_mul, Nat.one_mul]
    omega
theorem itm_bound {ls : List (List UInt8)} (B : Nat) (h : ∀ r ∈ ls, r.length ≤ B) : ∀ r ∈ ls.map itm, r.length ≤ B + 1 := by
  intro r hr
  obtain ⟨x, hx, rfl⟩ := List.mem_map.1 hr
  have := h x hx
  unfold itm; rw [List.length_cons]; omega
theorem disk_new_len (n : Nat) : (DiskS.new n).vi.length = n := by simp [DiskS.new]
theorem zeros_u8 (n : Nat) : ((List.replicate n (Value.int .u8 0)).toArray.toList.drop 0).take n = List.map u8v (List.replicate n 0) := by simp [u8v]
theorem few_big (ls : List (List UInt8)) : (fewL ls).any isBig = false := by
  rw [List.any_eq_false]
  intro r hr
  have := few_100 r hr
  unfold isBig
  simp; omega

theorem refuses_law (p : Option Addr) (cap : Nat) (ls : List (List UInt8)) (M : List Chunk) (hls : StrsIn M (.slice p ls.length cap) ls) (more : Int) (m1 : -9223372036854775808 ≤ more) (m2 : more ≤ 9223372036854775807) (pa : Addr) (Tx Tg : TypeId) (zx zg : Nat × Nat) :
    DoesR Tryz.prog 5 #[.slice p ls.length cap, .int .i64 more] [[(3, .cells (kTab.map u32v).toArray Tg zg)], [(0, .cells #[.iface 172 (.pointer (some pa))] Tx zx)], M] (.bool true) := by
  have hml : maxLen = 9223372036854775807 := rfl
  obtain ⟨ks, hks⟩ : ∃ ks, ks = fewL ls := ⟨_, rfl⟩
  have hk6 : ks.length ≤ 6 := by rw [hks]; exact few_len ls
  have hk100 : ∀ r ∈ ks, r.length ≤ 100 := by rw [hks]; exact few_100
  have hkb : ks.any isBig = false := by rw [hks]; exact few_big ls
  have hkl := fun h => outL_bound 101 (ks.map itm) h (by omega) (itm_bound 100 hk100)
  simp only [List.length_map] at hkl
  have hpk := pickN_lt more 100 (by decide)
  obtain ⟨big, hbig⟩ : ∃ big : List UInt8, big = List.replicate 65535 0 := ⟨_, rfl⟩
  have hbl : big.length = 65535 := by rw [hbig, List.length_replicate]
  have hbn : [big].any isBig = false := by
    rw [List.any_eq_false]
    intro r hr
    rw [List.mem_singleton] at hr
    subst hr
    unfold isBig
    rw [hbl]
    decide
  have hob := fun h => outL_bound 65536 ([big].map itm) h (Nat.le_refl _) (itm_bound 65535 (by intro r hr; rw [List.mem_singleton] at hr; subst hr; omega))
  simp only [List.length_map, List.length_cons, List.length_nil] at hob
  have hop : ∀ h, 0 < (outL h ([big].map itm)).length := fun h => by
    have := recS_len h (itm big) (by unfold itm; rw [List.length_cons]; omega)
    simp only [List.map_cons, List.map_nil, outL, List.length_append, this]; omega
  refine spec_enter Tryz.func5 rfl Tryz.ntmps5 rfl ?_
  intro u R
  refine at_slots (env' := [(0, _), (1, _)]) [0, 1] rfl (fun _ => rfl) ?_
  refine at_seq ?_
  refine at_region ?_
  refine op_w (p_assign (fun _ => rfl)) rfl rfl ?_
  refine ops_nil ?_
  refine nx_slots (env' := [(0, _), (1, _)]) [0, 1] rfl (fun _ => rfl) ?_
  refine nx_next ?_
  refine at_seq ?_
  refine at_region ?_
  refine op_e (w_callR (vs := []) (fun _ => rfl) Tryz.call7 (fun _ => rfl) rfl (sane24 pa Tx Tg zx zg) (by repeat (first | exact Pull.nil _ | (apply Pull.cons; (focus (repeat (first | exact One.here _ _ | apply One.there))))))) (fun _ => rfl) rfl rfl ?_
  rintro _ _ ⟨rfl, rfl⟩
  refine op_w (p_assign (fun _ => rfl)) rfl rfl ?_
  refine ops_nil ?_
  refine nx_slots (env' := [(0, _), (1, _), (5, _)]) [0, 1, 5] rfl (fun _ => rfl) ?_
  refine nx_next ?_
  refine at_seq ?_
  refine at_region ?_
  refine ops_eff (fun _ => rfl) (fits_of rfl) rfl (w_call (vs := [_]) (fun _ => rfl) Tryz.call8 (fun _ => rfl) rfl (new_state 100000 (by decide) (by decide)) (by repeat (first | exact Pull.nil _ | (apply Pull.cons; (focus (repeat (first | exact One.here _ _ | apply One.there))))))) ?_ no_pan
  rintro _ _ ⟨_, ⟨a, sda, rfl, rfl, hRa⟩, rfl⟩
  have hDa := JD.new 100000 (by decide)
  have hva := disk_new_len 100000
  obtain ⟨csa, hca⟩ := hRa.cell
  refine op_w (p_move (fun _ => rfl)) rfl rfl ?_
  refine op_w (p_extract (fun _ => rfl) rfl) rfl rfl ?_
  refine op_w (p_extract (fun _ => rfl) rfl) rfl rfl ?_
  refine op_w (p_assign (fun _ => rfl)) rfl rfl ?_
  refine op_w (p_assign (fun _ => rfl)) rfl rfl ?_
  refine ops_nil ?_
  refine nx_slots (env' := [(0, _), (1, _), (5, _), (6, _)]) [0, 1, 5, 6] rfl (fun _ => rfl) ?_
  refine nx_next ?_
  refine at_seq ?_
  refine at_region ?_
  refine ops_eff (fun _ => rfl) (fits_of rfl) rfl (w_call (vs := [_]) (fun _ => rfl) Tryz.call8 (fun _ => rfl) rfl (new_state 100000 (by decide) (by decide)) (by repeat (first | exact Pull.nil _ | (apply Pull.cons; (focus (repeat (first | exact One.here _ _ | apply One.there))))))) ?_ no_pan
  rintro _ _ ⟨_, ⟨b, sdb, rfl, rfl, hRb⟩, rfl⟩
  obtain ⟨csb, hcb⟩ := hRb.cell
  refine op_w (p_move (fun _ => rfl)) rfl rfl ?_
  refine op_w (p_extract (fun _ => rfl) rfl) rfl rfl ?_
  refine op_w (p_extract (fun _ => rfl) rfl) rfl rfl ?_
  refine op_w (p_assign (fun _ => rfl)) rfl rfl ?_
  refine op_w (p_assign (fun _ => rfl)) rfl rfl ?_
  refine ops_nil ?_
  refine nx_slots (env' := [(0, _), (1, _), (5, _), (6, _), (8, _)]) [0, 1, 5, 6, 8] rfl (fun _ => rfl) ?_
  refine nx_next ?_
  refine at_seq ?_
  refine at_ne (s1 := sda) (s2 := sdb) (by repeat (first | exact One.here _ _ | apply One.there)) (by repeat (first | exact One.here _ _ | apply One.there)) hca hcb (fun hab => ?_)
  refine at_region ?_
  refine op_w (p_move (fun _ => rfl)) rfl rfl ?_
  refine op_w (p_move (fun _ => rfl)) rfl rfl ?_
  refine ops_eff (fun _ => rfl) (fits_of rfl) rfl (w_call (vs := [_, _]) (fun _ => rfl) Tryz.call10 (fun _ => rfl) rfl (sn_new a b _ _ sda sdb pa Tx Tg zx zg hab hDa hDa hRa hRb (by omega)) (by repeat (first | exact Pull.nil _ | (apply Pull.cons; (focus (repeat (first | exact One.here _ _ | apply One.there))))))) ?_ no_pan
  rintro _ _ ⟨_, ⟨s0, sp, c, o, ss0, sc0, so0, sda1, rfl, hS0, hg0, hi0, hz0, hl0, hod0, hR0, rfl⟩, rfl⟩
  rw [hva] at hl0
  refine op_w (p_move (fun _ => rfl)) rfl rfl ?_
  refine op_w (p_extract (fun _ => rfl) rfl) rfl rfl ?_
  refine op_w (p_extract (fun _ => rfl) rfl) rfl rfl ?_
  refine op_w (p_assign (fun _ => rfl)) rfl rfl ?_
  refine op_w (p_assign (fun _ => rfl)) rfl rfl ?_
  refine ops_nil ?_
  refine nx_slots (env' := [(0, _), (1, _), (5, _), (6, _), (8, _), (10, _), (11, _)]) [0, 1, 5, 6, 8, 10, 11] rfl (fun _ => rfl) ?_
  refine nx_next ?_
  refine at_seq ?_
  refine at_seq ?_
  refine at_region ?_
  refine op_w (p_move (fun _ => rfl)) rfl rfl ?_
  first | refine op_w (p_neq_nat (n := 0) (fun _ => rfl) (fun _ => rfl)) rfl rfl ?_ | refine op_w (p_neq (fun _ => rfl) (fun _ => rfl)) rfl rfl ?_
  refine op_w (p_move (fun _ => rfl)) rfl rfl ?_
  first | refine ops_split (t := 40) (fun _ => rfl) rfl (fun hgg1 => ?_) (fun hgg1 => ?_) | refine ops_split_bool (t := 40) (fun _ => rfl) rfl (fun hgg1 => ?_) (fun hgg1 => ?_)
  ·
    exfalso; first | exact hgg1 rfl | (cases hgg1; done) | contradiction | omega | (simp at hgg1; done) | (simp at hgg1; omega) | (simp_all; done) | (simp_all; omega)
  ·
    refine op_wg (fun _ => rfl) (p_move (fun _ => rfl)) rfl rfl ?_
    first | refine op_wg (fun _ => rfl) (p_eql_nil_nil Tryz.underlying30 (fun _ => rfl) (fun _ => rfl)) rfl rfl ?_ | refine op_wg (fun _ => rfl) (p_eql_ptr_nil Tryz.underlying30 (fun _ => rfl) (fun _ => rfl)) rfl rfl ?_
    refine op_w (p_pick_f (fun _ => rfl) (fun _ => rfl)) rfl rfl ?_
    refine ops_nil ?_
    refine nx_slots (env' := [(0, _), (1, _), (5, _), (6, _), (8, _), (10, _), (43, _)]) [0, 1, 5, 6, 8, 10, 43] rfl (fun _ => rfl) ?_
    refine nx_next ?_
    refine at_if_bool (fun _ => rfl) (fun hgg2 => ?_) (fun hgg2 => ?_)
    ·
      exfalso; first | exact hgg2 rfl | (cases hgg2; done) | contradiction | omega | (simp at hgg2; done) | (simp at hgg2; omega) | (simp_all; done) | (simp_all; omega)
    ·
      refine at_skip ?_
      refine nx_next ?_
      refine at_seq ?_
      refine at_region ?_
      refine op_w (p_move (fun _ => rfl)) rfl rfl ?_
      refine ops_eff (fun _ => rfl) (fits_of rfl) rfl (w_call (vs := [_]) (fun _ => rfl) Tryz.call12 (fun _ => rfl) rfl (few_mem hls) (by repeat (first | exact Pull.nil _ | (apply Pull.cons; (focus (repeat (first | exact One.here _ _ | apply One.there))))))) ?_ no_pan
      rintro _ _ ⟨_, ⟨sf, hf, rfl⟩, rfl⟩
      rw [← hks] at hf
      obtain ⟨gl, cl, rfl⟩ := hf.form
      refine op_w (p_assign (fun _ => rfl)) rfl rfl ?_
      refine ops_nil ?_
      refine nx_slots (env' := [(0, _), (1, _), (5, _), (6, _), (8, _), (10, _)]) [0, 1, 5, 6, 8, 10] rfl (fun _ => rfl) ?_
      refine nx_next ?_
      refine at_seq ?_
      refine at_region ?_
      refine op_e (w_buildSlice0 Tryz.underlying34 Tryz.sizeOf9) (fun _ => rfl) rfl rfl ?_
      rintro _ _ ⟨ge, rfl, rfl⟩
      refine op_w (p_move (fun _ => rfl)) rfl rfl ?_
      refine op_e (w_append_row (by_ := 16) Tryz.underlying34 (rfl : Tryz.prog.info? 9 = some Tryz.t9) rfl rfl rfl rfl (fun _ => rfl) (row_new _ ge [] 0 rfl (Nat.zero_le _)) (fun _ => rfl) (hf) (by repeat (first | exact One.here _ _ | apply One.there)) (by repeat (first | exact One.here _ _ | apply One.there)) (by simp [Value.oneCell', strV]) (by (simp only [List.length_map, List.length_nil]; omega)) (by (simp only [List.length_map, List.length_nil]; omega))) (fun _ => rfl) rfl rfl ?_
      rintro _ _ ⟨spp, hrpp, rfl⟩
      obtain ⟨gpp, cpp, rfl⟩ := hrpp.form
      refine op_w (p_move (fun _ => rfl)) rfl rfl ?_
      refine op_e (w_callR (vs := [_, _]) (fun _ => rfl) Tryz.call18 (fun _ => rfl) rfl (pick_spec more 100 (by decide) (by decide) m1 m2) (by repeat (first | exact Pull.nil _ | (apply Pull.cons; (focus (repeat (first | exact One.here _ _ | apply One.there))))))) (fun _ => rfl) rfl rfl ?_
      rintro _ _ ⟨rfl, rfl⟩
      first | (refine op_w (p_add_nat (m := 65536) (fun _ => rfl) (fun _ => rfl) ?_) rfl rfl ?_; (focus (omega))) | (refine op_w (p_add (fun _ => rfl) (fun _ => rfl) (IntWalk.i64_in _ ?_)) rfl rfl ?_; (focus (omega)))
      refine op_e (w_makeSlice (by_ := 1) Tryz.underlying42 (rfl : Tryz.prog.info? 5 = some Tryz.t5) rfl rfl rfl rfl (fun _ => rfl) (fun _ => rfl) ?_ ?_ ?_) (fun _ => rfl) rfl rfl ?_
      (focus (omega))
      (focus (omega))
      (focus (omega))
      rintro _ _ ⟨gm, rfl, rfl⟩
      refine op_r (by repeat (first | exact Has.here _ | apply Has.there)) (p_conv_bytes_str Tryz.underlying42 Tryz.underlying5 Tryz.underlying9 (fun _ => rfl) (by exact (show (_ = List.map u8v (List.replicate (65536 + pickN more 100) 0)) ∧ _ from ⟨by simp [u8v], by simp⟩))) rfl rfl ?_
      refine op_e (w_buildSlice (vs := [_]) (cs := [_]) Tryz.underlying34 Tryz.sizeOf9 Tryz.zeroValue9 (fun _ => rfl) rfl rfl rfl rfl rfl) (fun _ => rfl) rfl rfl ?_
      rintro _ _ ⟨gb, rfl, rfl⟩
      refine op_e (w_append_row (by_ := 16) Tryz.underlying34 (rfl : Tryz.prog.info? 9 = some Tryz.t9) rfl rfl rfl rfl (fun _ => rfl) (hrpp) (fun _ => rfl) (row_new _ gb [strV (List.replicate (65536 + pickN more 100) 0)] 1 rfl (by decide)) (by repeat (first | exact One.here _ _ | apply One.there)) (by repeat (first | exact One.here _ _ | apply One.there)) (by simp [Value.oneCell', strV]) (by (simp only [List.length_map, List.length_append, List.length_cons, List.length_nil]; omega)) (by (simp only [List.length_map, List.length_append, List.length_cons, List.length_nil]; omega))) (fun _ => rfl) rfl rfl ?_
      rintro _ _ ⟨sq, hrq, rfl⟩
      have hq9 : [] ++ List.map strV ks ++ [strV (List.replicate (65536 + pickN more 100) 0)] = (ks ++ [(List.replicate (65536 + pickN more 100) 0)]).map strV := by simp
      rw [hq9] at hrq
      obtain ⟨gq, cq, rfl⟩ := hrq.form
      refine op_w (p_assign (fun _ => rfl)) rfl rfl ?_
      refine ops_nil ?_
      refine nx_slots (env' := [(0, _), (5, _), (6, _), (8, _), (10, _), (12, _)]) [0, 5, 6, 8, 10, 12] rfl (fun _ => rfl) ?_
      refine nx_next ?_
      refine at_seq ?_
      refine at_region ?_
      refine op_w (p_move (fun _ => rfl)) rfl rfl ?_
      refine op_w (p_move (fun _ => rfl)) rfl rfl ?_
      refine ops_eff (fun _ => rfl) (fits_of rfl) rfl (w_call (vs := [_, _]) (fun _ => rfl) Tryz.call13 (fun _ => rfl) rfl (sn_append s0 sp c a o b ss0 sc0 so0 sda1 sdb sf _ ks Tg zg hS0 hR0 hf (by omega) hkb) (by repeat (first | exact Pull.nil _ | (apply Pull.cons; (focus (repeat (first | exact One.here _ _ | apply One.there))))))) ?_ no_pan
      rintro _ _ ⟨_, ⟨e1, s1, ss1, sc1, sda2, rfl, hS1, hg1, ho1, hod1, hl1, hx1, hR1, rfl⟩, rfl⟩
      have hkl0 := hkl s0.cur.h
      rw [hl0] at hl1 hx1
      have hy1 : e1 = 0 ∧ s1.its = ks ∧ s1.cur.sz ≤ 36 + 858 := by
        rcases hx1 with ⟨h, _⟩ | ⟨_, h1, h2, h3⟩
        · omega
        · exact ⟨h1, by rw [h2, hi0]; rfl, by omega⟩
      obtain ⟨rfl, hi1, hz1⟩ := hy1
      refine op_w (p_assign (fun _ => rfl)) rfl rfl ?_
      refine ops_nil ?_
      refine nx_slots (env' := [(0, _), (5, _), (6, _), (8, _), (10, _), (12, _), (13, _)]) [0, 5, 6, 8, 10, 12, 13] rfl (fun _ => rfl) ?_
      refine nx_next ?_
      refine at_seq ?_
      refine at_region ?_
      refine op_w (p_move (fun _ => rfl)) rfl rfl ?_
      refine op_e (w_callR (vs := [_]) (fun _ => rfl) Tryz.call17 (fun _ => rfl) rfl (sn_room s1 sp c a o b ss1 sc1 so0 sda2 sdb hS1 hR1) (by repeat (first | exact Pull.nil _ | (apply Pull.cons; (focus (repeat (first | exact One.here _ _ | apply One.there))))))) (fun _ => rfl) rfl rfl ?_
      rintro _ _ ⟨rfl, rfl⟩
      refine op_w (p_assign (fun _ => rfl)) rfl rfl ?_
      refine ops_nil ?_
      refine nx_slots (env' := [(0, _), (5, _), (6, _), (8, _), (10, _), (12, _), (13, _), (14, _)]) [0, 5, 6, 8, 10, 12, 13, 14] rfl (fun _ => rfl) ?_
      refine nx_next ?_
      refine at_seq ?_
      refine at_region ?_
      refine op_w (p_move (fun _ => rfl)) rfl rfl ?_
      refine op_w (p_move (fun _ => rfl)) rfl rfl ?_
      refine op_e (w_callR (vs := [_, _]) (fun _ => rfl) Tryz.call13 (fun _ => rfl) rfl (sappend_big sp _ (ks ++ [(List.replicate (65536 + pickN more 100) 0)]) sq hrq (by simp; omega) (by simp [isBig])) (by repeat (first | exact Pull.nil _ | (apply Pull.cons; (focus (repeat (first | exact One.here _ _ | apply One.there))))))) (fun _ => rfl) rfl rfl ?_
      rintro _ _ ⟨rfl, rfl⟩
      refine op_w (p_assign (fun _ => rfl)) rfl rfl ?_
      refine ops_nil ?_
      refine nx_slots (env' := [(0, _), (5, _), (6, _), (8, _), (10, _), (12, _), (13, _), (14, _), (15, _)]) [0, 5, 6, 8, 10, 12, 13, 14, 15] rfl (fun _ => rfl) ?_
      refine nx_next ?_
      refine at_seq ?_
      refine at_region ?_
      refine op_w (p_move (fun _ => rfl)) rfl rfl ?_
      refine op_w (p_move (fun _ => rfl)) rfl rfl ?_
      refine op_e (w_callR (vs := [_, _]) (fun _ => rfl) Tryz.call11 (fun _ => rfl) rfl (scompact_big sp _ (ks ++ [(List.replicate (65536 + pickN more 100) 0)]) sq hrq (by simp; omega) (by simp [isBig])) (by repeat (first | exact Pull.nil _ | (apply Pull.cons; (focus (repeat (first | exact One.here _ _ | apply One.there))))))) (fun _ => rfl) rfl rfl ?_
      rintro _ _ ⟨rfl, rfl⟩
      refine op_w (p_assign (fun _ => rfl)) rfl rfl ?_
      refine ops_nil ?_
      refine nx_slots (env' := [(0, _), (5, _), (6, _), (8, _), (10, _), (13, _), (14, _), (15, _), (16, _)]) [0, 5, 6, 8, 10, 13, 14, 15, 16] rfl (fun _ => rfl) ?_
      refine nx_next ?_
      refine at_seq ?_
      refine at_region ?_
      refine op_w (p_move (fun _ => rfl)) rfl rfl ?_
      refine op_e (w_makeSlice (by_ := 1) (l := 65535) (c := 65535) Tryz.underlying42 (rfl : Tryz.prog.info? 5 = some Tryz.t5) rfl rfl rfl rfl (fun _ => rfl) (fun _ => rfl) ?_ ?_ ?_) (fun _ => rfl) rfl rfl ?_
      (focus (decide))
      (focus (decide))
      (focus (decide))
      rintro _ _ ⟨m3, rfl, rfl⟩
      refine op_r (by repeat (first | exact Has.here _ | apply Has.there)) (p_conv_bytes_str Tryz.underlying42 Tryz.underlying5 Tryz.underlying9 (fun _ => rfl) (by exact (show (_ = List.map u8v big) ∧ big.length = _ from ⟨by rw [hbig]; exact zeros_u8 65535, hbl⟩))) rfl rfl ?_
      refine op_e (w_buildSlice (vs := [_]) (cs := [_]) Tryz.underlying34 Tryz.sizeOf9 Tryz.zeroValue9 (fun _ => rfl) rfl rfl rfl rfl rfl) (fun _ => rfl) rfl rfl ?_
      rintro _ _ ⟨g3, rfl, rfl⟩
      refine ops_eff (fun _ => rfl) (fits_of rfl) rfl (w_call (vs := [_, _]) (fun _ => rfl) Tryz.call13 (fun _ => rfl) rfl (sn_append s1 sp c a o b ss1 sc1 so0 sda2 sdb _ _ [big] Tg zg hS1 hR1 (row_new _ g3 ([big].map strV) 1 rfl (by decide)) (by simp) hbn) (by repeat (first | exact Pull.nil _ | (apply Pull.cons; (focus (repeat (first | exact One.here _ _ | apply One.there))))))) ?_ no_pan
      rintro _ _ ⟨_, ⟨e2, s2, ss2, sc2, sda3, rfl, hS2, hg2, ho2, hod2, hl2, hx2, hR2, rfl⟩, rfl⟩
      have hob1 := hob s1.cur.h
      have hop1 := hop s1.cur.h
      rw [hl1] at hl2 hx2
      have hy2 : e2 = 0 ∧ s2.its = ks ++ [big] ∧ s1.cur.sz < s2.cur.sz := by
        rcases hx2 with ⟨h, _⟩ | ⟨_, h1, h2, h3⟩
        · omega
        · exact ⟨h1, by rw [h2, hi1], by omega⟩
      obtain ⟨rfl, hi2, hz2⟩ := hy2
      refine op_w (p_assign (fun _ => rfl)) rfl rfl ?_
      refine ops_nil ?_
      refine nx_slots (env' := [(0, _), (5, _), (6, _), (8, _), (10, _), (13, _), (14, _), (15, _), (16, _), (17, _)]) [0, 5, 6, 8, 10, 13, 14, 15, 16, 17] rfl (fun _ => rfl) ?_
      refine nx_next ?_
      refine at_seq ?_
      refine at_region ?_
      refine op_w (p_assign (fun _ => rfl)) rfl rfl ?_
      refine ops_nil ?_
      refine nx_slots (env' := [(0, _), (5, _), (6, _), (8, _), (10, _), (13, _), (14, _), (15, _), (16, _), (17, _), (18, _)]) [0, 5, 6, 8, 10, 13, 14, 15, 16, 17, 18] rfl (fun _ => rfl) ?_
      refine nx_next ?_
      refine at_seq ?_
      refine at_region ?_
      refine op_w (p_move (fun _ => rfl)) rfl rfl ?_
      refine op_e (w_callR (vs := [_, _]) (fun _ => rfl) Tryz.call10 (fun _ => rfl) rfl (open_nil2 a) (by repeat (first | exact Pull.nil _ | (apply Pull.cons; (focus (repeat (first | exact One.here _ _ | apply One.there))))))) (fun _ => rfl) rfl rfl ?_
      rintro _ _ ⟨rfl, rfl⟩
      refine op_w (p_move (fun _ => rfl)) rfl rfl ?_
      refine op_w (p_extract (fun _ => rfl) rfl) rfl rfl ?_
      refine op_w (p_extract (fun _ => rfl) rfl) rfl rfl ?_
      refine op_w (p_assign (fun _ => rfl)) rfl rfl ?_
      refine op_w (p_assign (fun _ => rfl)) rfl rfl ?_
      refine ops_nil ?_
      refine nx_slots (env' := [(0, _), (5, _), (8, _), (10, _), (13, _), (14, _), (15, _), (16, _), (17, _), (18, _), (20, _)]) [0, 5, 8, 10, 13, 14, 15, 16, 17, 18, 20] rfl (fun _ => rfl) ?_
      refine nx_next ?_
      refine at_seq ?_
      refine at_region ?_
      refine op_w (p_move (fun _ => rfl)) rfl rfl ?_
      refine op_w (p_move (fun _ => rfl)) rfl rfl ?_
      refine op_e (w_callR (vs := [_, _]) (fun _ => rfl) Tryz.call10 (fun _ => rfl) rfl (open_same b) (by repeat (first | exact Pull.nil _ | (apply Pull.cons; (focus (repeat (first | exact One.here _ _ | apply One.there))))))) (fun _ => rfl) rfl rfl ?_
      rintro _ _ ⟨rfl, rfl⟩
      refine op_w (p_move (fun _ => rfl)) rfl rfl ?_
      refine op_w (p_extract (fun _ => rfl) rfl) rfl rfl ?_
      refine op_w (p_extract (fun _ => rfl) rfl) rfl rfl ?_
      refine op_w (p_assign (fun _ => rfl)) rfl rfl ?_
      refine op_w (p_assign (fun _ => rfl)) rfl rfl ?_
      refine ops_nil ?_
      refine nx_slots (env' := [(0, _), (5, _), (10, _), (13, _), (14, _), (15, _), (16, _), (17, _), (18, _), (20, _), (22, _)]) [0, 5, 10, 13, 14, 15, 16, 17, 18, 20, 22] rfl (fun _ => rfl) ?_
      refine nx_next ?_
      refine at_seq ?_
      refine at_seq ?_
      refine at_region ?_
      refine op_w (p_move (fun _ => rfl)) rfl rfl ?_
      first | refine op_w (p_neq_nat (n := 0) (fun _ => rfl) (fun _ => rfl)) rfl rfl ?_ | refine op_w (p_neq (fun _ => rfl) (fun _ => rfl)) rfl rfl ?_
      refine op_w (p_move (fun _ => rfl)) rfl rfl ?_
      first | refine ops_split (t := 85) (fun _ => rfl) rfl (fun hp0 => ?_) (fun hp0 => ?_) | refine ops_split_bool (t := 85) (fun _ => rfl) rfl (fun hp0 => ?_) (fun hp0 => ?_)
      ·
        exfalso; first | exact hp0 rfl | (cases hp0; done) | contradiction | omega | (simp at hp0; done) | (simp at hp0; omega) | (simp_all; done) | (simp_all; omega)
      ·
        refine op_wg (fun _ => rfl) (p_move (fun _ => rfl)) rfl rfl ?_
        first | refine op_wg (fun _ => rfl) (p_neq_nat (n := 240) (fun _ => rfl) (fun _ => rfl)) rfl rfl ?_ | refine op_wg (fun _ => rfl) (p_neq (fun _ => rfl) (fun _ => rfl)) rfl rfl ?_
        refine op_w (p_pick_f (fun _ => rfl) (fun _ => rfl)) rfl rfl ?_
        refine op_w (p_move (fun _ => rfl)) rfl rfl ?_
        first | refine ops_split (t := 89) (fun _ => rfl) rfl (fun hp1 => ?_) (fun hp1 => ?_) | refine ops_split_bool (t := 89) (fun _ => rfl) rfl (fun hp1 => ?_) (fun hp1 => ?_)
        ·
          exfalso; first | exact hp1 rfl | (cases hp1; done) | contradiction | omega | (simp at hp1; done) | (simp at hp1; omega) | (simp_all; done) | (simp_all; omega)
        ·
          refine op_wg (fun _ => rfl) (p_move (fun _ => rfl)) rfl rfl ?_
          first | refine op_wg (fun _ => rfl) (p_neq_nat (n := 240) (fun _ => rfl) (fun _ => rfl)) rfl rfl ?_ | refine op_wg (fun _ => rfl) (p_neq (fun _ => rfl) (fun _ => rfl)) rfl rfl ?_
          refine op_w (p_pick_f (fun _ => rfl) (fun _ => rfl)) rfl rfl ?_
          refine op_w (p_move (fun _ => rfl)) rfl rfl ?_
          first | refine ops_split (t := 93) (fun _ => rfl) rfl (fun hp2 => ?_) (fun hp2 => ?_) | refine ops_split_bool (t := 93) (fun _ => rfl) rfl (fun hp2 => ?_) (fun hp2 => ?_)
          ·
            exfalso; first | exact hp2 rfl | (cases hp2; done) | contradiction | omega | (simp at hp2; done) | (simp at hp2; omega) | (simp_all; done) | (simp_all; omega)
          ·
            refine op_wg (fun _ => rfl) (p_move (fun _ => rfl)) rfl rfl ?_
            first | refine op_wg (fun _ => rfl) (p_neq_nat (n := 0) (fun _ => rfl) (fun _ => rfl)) rfl rfl ?_ | refine op_wg (fun _ => rfl) (p_neq (fun _ => rfl) (fun _ => rfl)) rfl rfl ?_
            refine op_w (p_pick_f (fun _ => rfl) (fun _ => rfl)) rfl rfl ?_
            refine op_w (p_move (fun _ => rfl)) rfl rfl ?_
            first | refine ops_split (t := 97) (fun _ => rfl) rfl (fun hp3 => ?_) (fun hp3 => ?_) | refine ops_split_bool (t := 97) (fun _ => rfl) rfl (fun hp3 => ?_) (fun hp3 => ?_)
            ·
              exfalso; first | exact hp3 rfl | (cases hp3; done) | contradiction | omega | (simp at hp3; done) | (simp at hp3; omega) | (simp_all; done) | (simp_all; omega)
            ·
              refine op_wg (fun _ => rfl) (p_move (fun _ => rfl)) rfl rfl ?_
              first | refine op_wg (fun _ => rfl) (p_neq_nat (n := 1) (fun _ => rfl) (fun _ => rfl)) rfl rfl ?_ | refine op_wg (fun _ => rfl) (p_neq (fun _ => rfl) (fun _ => rfl)) rfl rfl ?_
              refine op_w (p_pick_f (fun _ => rfl) (fun _ => rfl)) rfl rfl ?_
              refine op_w (p_move (fun _ => rfl)) rfl rfl ?_
              first | refine ops_split (t := 101) (fun _ => rfl) rfl (fun hp4 => ?_) (fun hp4 => ?_) | refine ops_split_bool (t := 101) (fun _ => rfl) rfl (fun hp4 => ?_) (fun hp4 => ?_)
              ·
                exfalso; first | exact hp4 rfl | (cases hp4; done) | contradiction | omega | (simp at hp4; done) | (simp at hp4; omega) | (simp_all; done) | (simp_all; omega)
              ·
                refine op_wg (fun _ => rfl) (p_move (fun _ => rfl)) rfl rfl ?_
                first | refine op_wg (fun _ => rfl) (p_neq_nat (n := 240) (fun _ => rfl) (fun _ => rfl)) rfl rfl ?_ | refine op_wg (fun _ => rfl) (p_neq (fun _ => rfl) (fun _ => rfl)) rfl rfl ?_
                refine op_w (p_pick_f (fun _ => rfl) (fun _ => rfl)) rfl rfl ?_
                refine ops_nil ?_
                refine nx_slots (env' := [(0, _), (5, _), (10, _), (14, _), (18, _), (104, _)]) [0, 5, 10, 14, 18, 104] rfl (fun _ => rfl) ?_
                refine nx_next ?_
                first | refine at_if (fun _ => rfl) (fun hp9 => ?_) (fun hp9 => ?_) | refine at_if_bool (fun _ => rfl) (fun hp9 => ?_) (fun hp9 => ?_)
                ·
                  exfalso; first | exact hp9 rfl | (cases hp9; done) | contradiction | omega | (simp at hp9; done) | (simp at hp9; omega) | (simp_all; done) | (simp_all; omega)
                ·
                  refine at_skip ?_
                  refine nx_next ?_
                  refine at_seq ?_
                  refine at_region ?_
                  refine op_w (p_move (fun _ => rfl)) rfl rfl ?_
                  refine op_w (p_move (fun _ => rfl)) rfl rfl ?_
                  refine ops_split_bool (t := 106) (fun _ => rfl) rfl (fun hk1 => ?_) (fun hk1 => ?_)
                  ·
                    refine op_wg (fun _ => rfl) (p_move (fun _ => rfl)) rfl rfl ?_
                    refine op_e (w_callR (vs := [_]) (fun _ => rfl) Tryz.call17 (fun _ => rfl) rfl (sn_room s2 sp c a o b ss2 sc2 so0 sda3 sdb hS2 hR2) (by repeat (first | exact Pull.nil _ | (apply Pull.cons; (focus (repeat (first | exact One.here _ _ | apply One.there))))))) (fun _ => rfl) rfl rfl ?_
                    rintro _ _ ⟨rfl, rfl⟩
                    refine op_wg (fun _ => rfl) (p_move (fun _ => rfl)) rfl rfl ?_
                    first | refine op_wg (fun _ => rfl) (p_lss_nat (fun _ => rfl) (fun _ => rfl)) rfl rfl ?_ | refine op_wg (fun _ => rfl) (p_lss (fun _ => rfl) (fun _ => rfl)) rfl rfl ?_
                    refine op_w (p_pick_t (fun _ => rfl) (fun _ => rfl)) rfl rfl ?_
                    refine op_w (p_move (fun _ => rfl)) rfl rfl ?_
                    first | refine ops_split (t := 112) (fun _ => rfl) rfl (fun hk2 => ?_) (fun hk2 => ?_) | refine ops_split_bool (t := 112) (fun _ => rfl) rfl (fun hk2 => ?_) (fun hk2 => ?_)
                    ·
                      refine op_wg (fun _ => rfl) (p_move (fun _ => rfl)) rfl rfl ?_
                      refine ops_eff (fun _ => rfl) (fits_of rfl) rfl (w_call (vs := [_]) (fun _ => rfl) Tryz.call14 (fun _ => rfl) rfl (sn_items s2 sp c a o b ss2 sc2 so0 sda3 sdb hS2 hR2) (by repeat (first | exact Pull.nil _ | (apply Pull.cons; (focus (repeat (first | exact One.here _ _ | apply One.there))))))) ?_ no_pan
                      rintro _ _ ⟨_, ⟨sv2, hv2, rfl⟩, rfl⟩
                      rw [hi2] at hv2
                      obtain ⟨gv2, cv2, rfl⟩ := hv2.form
                      rw [List.length_map, List.length_append]
                      refine op_wg (fun _ => rfl) (p_len_slice Tryz.underlying34 (fun _ => rfl)) rfl rfl ?_
                      refine op_wg (fun _ => rfl) (p_move (fun _ => rfl)) rfl rfl ?_
                      refine op_wg (fun _ => rfl) (p_len_slice Tryz.underlying34 (fun _ => rfl)) rfl rfl ?_
                      first | (refine op_wg (fun _ => rfl) (p_add_nat (n := 1) (fun _ => rfl) (fun _ => rfl) ?_) rfl rfl ?_; (focus ((simp only [List.length_map]; omega)))) | (refine op_wg (fun _ => rfl) (p_add (fun _ => rfl) (fun _ => rfl) (IntWalk.i64_in _ ?_)) rfl rfl ?_; (focus ((simp only [List.length_map]; omega))))
                      first | refine op_wg (fun _ => rfl) (p_eql_nat (fun _ => rfl) (fun _ => rfl)) rfl rfl ?_ | refine op_wg (fun _ => rfl) (p_eql (fun _ => rfl) (fun _ => rfl)) rfl rfl ?_
                      refine op_w (p_pick_t (fun _ => rfl) (fun _ => rfl)) rfl rfl ?_
                      refine op_w (p_move (fun _ => rfl)) rfl rfl ?_
                      first | refine ops_split (t := 121) (fun _ => rfl) rfl (fun hk3 => ?_) (fun hk3 => ?_) | refine ops_split_bool (t := 121) (fun _ => rfl) rfl (fun hk3 => ?_) (fun hk3 => ?_)
                      ·
                        refine op_wg (fun _ => rfl) (p_move (fun _ => rfl)) rfl rfl ?_
                        refine op_wg (fun _ => rfl) (p_move (fun _ => rfl)) rfl rfl ?_
                        refine op_e (w_callR (vs := [_, _]) (fun _ => rfl) Tryz.call13 (fun _ => rfl) rfl (sappend_nil _) (by repeat (first | exact Pull.nil _ | (apply Pull.cons; (focus (repeat (first | exact One.here _ _ | apply One.there))))))) (fun _ => rfl) rfl rfl ?_
                        rintro _ _ ⟨rfl, rfl⟩
                        first | refine op_wg (fun _ => rfl) (p_eql_nat (n := 1) (fun _ => rfl) (fun _ => rfl)) rfl rfl ?_ | refine op_wg (fun _ => rfl) (p_eql (fun _ => rfl) (fun _ => rfl)) rfl rfl ?_
                        refine op_w (p_pick_t (fun _ => rfl) (fun _ => rfl)) rfl rfl ?_
                        refine op_w (p_move (fun _ => rfl)) rfl rfl ?_
                        first | refine ops_split (t := 127) (fun _ => rfl) rfl (fun hk4 => ?_) (fun hk4 => ?_) | refine ops_split_bool (t := 127) (fun _ => rfl) rfl (fun hk4 => ?_) (fun hk4 => ?_)
                        ·
                          refine op_wg (fun _ => rfl) (p_move (fun _ => rfl)) rfl rfl ?_
                          refine op_wg (fun _ => rfl) (p_move (fun _ => rfl)) rfl rfl ?_
                          refine op_e (w_callR (vs := [_, _]) (fun _ => rfl) Tryz.call11 (fun _ => rfl) rfl (scompact_nil _) (by repeat (first | exact Pull.nil _ | (apply Pull.cons; (focus (repeat (first | exact One.here _ _ | apply One.there))))))) (fun _ => rfl) rfl rfl ?_
                          rintro _ _ ⟨rfl, rfl⟩
                          first | refine op_wg (fun _ => rfl) (p_eql_nat (n := 1) (fun _ => rfl) (fun _ => rfl)) rfl rfl ?_ | refine op_wg (fun _ => rfl) (p_eql (fun _ => rfl) (fun _ => rfl)) rfl rfl ?_
                          refine op_w (p_pick_t (fun _ => rfl) (fun _ => rfl)) rfl rfl ?_
                          refine op_w (p_move (fun _ => rfl)) rfl rfl ?_
                          first | refine ops_split (t := 133) (fun _ => rfl) rfl (fun hk5 => ?_) (fun hk5 => ?_) | refine ops_split_bool (t := 133) (fun _ => rfl) rfl (fun hk5 => ?_) (fun hk5 => ?_)
                          ·
                            refine op_wg (fun _ => rfl) (p_move (fun _ => rfl)) rfl rfl ?_
                            refine op_e (w_callR (vs := [_]) (fun _ => rfl) Tryz.call14 (fun _ => rfl) rfl (items_nil) (by repeat (first | exact Pull.nil _ | (apply Pull.cons; (focus (repeat (first | exact One.here _ _ | apply One.there))))))) (fun _ => rfl) rfl rfl ?_
                            rintro _ _ ⟨rfl, rfl⟩
                            refine op_wg (fun _ => rfl) (p_len_slice Tryz.underlying34 (fun _ => rfl)) rfl rfl ?_
                            first | refine op_wg (fun _ => rfl) (p_eql_nat (n := 0) (fun _ => rfl) (fun _ => rfl)) rfl rfl ?_ | refine op_wg (fun _ => rfl) (p_eql (fun _ => rfl) (fun _ => rfl)) rfl rfl ?_
                            refine op_w (p_pick_t (fun _ => rfl) (fun _ => rfl)) rfl rfl ?_
                            refine op_w (p_move (fun _ => rfl)) rfl rfl ?_
                            first | refine ops_split (t := 139) (fun _ => rfl) rfl (fun hk6 => ?_) (fun hk6 => ?_) | refine ops_split_bool (t := 139) (fun _ => rfl) rfl (fun hk6 => ?_) (fun hk6 => ?_)
                            ·
                              refine op_wg (fun _ => rfl) (p_move (fun _ => rfl)) rfl rfl ?_
                              refine op_e (w_callR (vs := [_]) (fun _ => rfl) Tryz.call16 (fun _ => rfl) rfl (gen_nil) (by repeat (first | exact Pull.nil _ | (apply Pull.cons; (focus (repeat (first | exact One.here _ _ | apply One.there))))))) (fun _ => rfl) rfl rfl ?_
                              rintro _ _ ⟨rfl, rfl⟩
                              first | refine op_wg (fun _ => rfl) (p_eql_nat (n := 0) (fun _ => rfl) (fun _ => rfl)) rfl rfl ?_ | refine op_wg (fun _ => rfl) (p_eql (fun _ => rfl) (fun _ => rfl)) rfl rfl ?_
                              refine op_w (p_pick_t (fun _ => rfl) (fun _ => rfl)) rfl rfl ?_
                              refine op_w (p_move (fun _ => rfl)) rfl rfl ?_
                              first | refine ops_split (t := 144) (fun _ => rfl) rfl (fun hk7 => ?_) (fun hk7 => ?_) | refine ops_split_bool (t := 144) (fun _ => rfl) rfl (fun hk7 => ?_) (fun hk7 => ?_)
                              ·
                                refine op_wg (fun _ => rfl) (p_move (fun _ => rfl)) rfl rfl ?_
                                refine op_e (w_callR (vs := [_]) (fun _ => rfl) Tryz.call17 (fun _ => rfl) rfl (sroom_nil) (by repeat (first | exact Pull.nil _ | (apply Pull.cons; (focus (repeat (first | exact One.here _ _ | apply One.there))))))) (fun _ => rfl) rfl rfl ?_
                                rintro _ _ ⟨rfl, rfl⟩
                                first | refine op_wg (fun _ => rfl) (p_eql_nat (n := 0) (fun _ => rfl) (fun _ => rfl)) rfl rfl ?_ | refine op_wg (fun _ => rfl) (p_eql (fun _ => rfl) (fun _ => rfl)) rfl rfl ?_
                                refine op_w (p_pick_t (fun _ => rfl) (fun _ => rfl)) rfl rfl ?_
                                refine op_w (p_assign (fun _ => rfl)) rfl rfl ?_
                                refine ops_nil ?_
                                refine nx_slots (env' := [(4, _)]) [4] rfl (fun _ => rfl) ?_
                                refine nx_next ?_
                                refine at_ret ?_
                                refine nx_end1 (H' := _) rfl Tryz.results5 (fun _ => rfl) (by exact ⟨rfl, rfl⟩) ?hp_1
                                case hp_1 => repeat (first | exact Sub.refl _ | exact Sub.nil _ | (apply Sub.cons; (focus (repeat (first | exact One.here _ _ | apply One.there)))) | refine Sub.drop _ ?_)
                              ·
                                exfalso; first | exact hk7 rfl | (cases hk7; done) | contradiction | omega | (simp at hk7; done) | (simp at hk7; omega) | (simp_all; done) | (simp_all; omega)
                            ·
                              exfalso; first | exact hk6 rfl | (cases hk6; done) | contradiction | omega | (simp at hk6; done) | (simp at hk6; omega) | (simp_all; done) | (simp_all; omega)
                          ·
                            exfalso; first | exact hk5 rfl | (cases hk5; done) | contradiction | omega | (simp at hk5; done) | (simp at hk5; omega) | (simp_all; done) | (simp_all; omega)
                        ·
                          exfalso; first | exact hk4 rfl | (cases hk4; done) | contradiction | omega | (simp at hk4; done) | (simp at hk4; omega) | (simp_all; done) | (simp_all; omega)
                      ·
                        exfalso; exact hk3 (by rw [List.length_map, List.length_singleton])
                    ·
                      exfalso; omega
                  ·
                    exfalso; first | exact hk1 rfl | (cases hk1; done) | contradiction | omega | (simp at hk1; done) | (simp at hk1; omega) | (simp_all; done) | (simp_all; omega)

end Go.Proofs.YtohgibkpkknfnaaGreatDoor
