/- SnapshotGroups: the law. -/
import Derived.Test.YtohgibkpkknfnaaGreatDoorLr3
namespace Go.Proofs.YtohgibkpkknfnaaGreatDoor
open Go Go.RowKit Gw
set_option linter.unusedVariables false
set_option maxRecDepth 100000
attribute [local irreducible] Gw.At Gw.Nx Gw.Ops
theorem items_bound (l : List (List UInt8)) (h : ∀ r ∈ l, r.length ≤ 100) (hd : List UInt8) : (outL hd (l.map itm)).length ≤ l.length * 143 := by
  have := outL_bound 101 (l.map itm) hd (by omega) (itm_bound 100 h)
  simpa using this
theorem recs_bound (l : List (List UInt8)) (h : ∀ r ∈ l, r.length ≤ 100) : (outL zero32 (recsOf 2 l)).length ≤ 36 + l.length * 143 := by
  have e0 := hdr_two 2 (by decide)
  have a := recS_one zero32 (hdr 2) (by omega)
  have b := items_bound l h (chainS zero32 (hdr 2))
  simp only [recsOf, outL, List.length_append, a, e0]
  omega
theorem short_any {l : List (List UInt8)} (h : ∀ r ∈ l, r.length ≤ 100) : l.any isBig = false := by
  rw [List.any_eq_false]
  intro r hr
  have := h r hr
  unfold isBig
  simp; omega
theorem take_snoc (ks : List (List UInt8)) (k : Nat) (h : k < ks.length) : ks.take k ++ (ks.drop k).take 1 = ks.take (k + 1) := by
  rw [← List.take_add]

theorem groups_law (p : Option Addr) (cap : Nat) (ls : List (List UInt8)) (M : List Chunk) (hls : StrsIn M (.slice p ls.length cap) ls) (first : Int) (m1 : -9223372036854775808 ≤ first) (m2 : first ≤ 9223372036854775807) (pa : Addr) (Tx Tg : TypeId) (zx zg : Nat × Nat) :
    DoesR Tryz.prog 6 #[.slice p ls.length cap, .int .i64 first] [[(3, .cells (kTab.map u32v).toArray Tg zg)], [(0, .cells #[.iface 172 (.pointer (some pa))] Tx zx)], M] (.bool true) := by
  have hml : maxLen = 9223372036854775807 := rfl
  obtain ⟨ks, hks⟩ : ∃ ks, ks = fewL ls := ⟨_, rfl⟩
  have hk6 : ks.length ≤ 6 := by rw [hks]; exact few_len ls
  have hk100 : ∀ r ∈ ks, r.length ≤ 100 := by rw [hks]; exact few_100
  have hkb : ks.any isBig = false := by rw [hks]; exact few_big ls
  have hkl := fun h => outL_bound 101 (ks.map itm) h (by omega) (itm_bound 100 hk100)
  simp only [List.length_map] at hkl
  obtain ⟨f, hf9⟩ : ∃ f, f = pickN first (ks.length + 1) := ⟨_, rfl⟩
  have hfl : f ≤ ks.length := by have := pickN_lt first (ks.length + 1) (by omega); omega
  have htk100 : ∀ r ∈ ks.take f, r.length ≤ 100 := fun r hr => hk100 r (List.mem_of_mem_take hr)
  have hdr100 : ∀ r ∈ (ks.drop f).take (ks.length - f), r.length ≤ 100 := fun r hr => hk100 r (List.mem_of_mem_drop (List.mem_of_mem_take hr))
  have hltk : (ks.take f).length = f := by rw [List.length_take]; exact Nat.min_eq_left hfl
  have hldr : ((ks.drop f).take (ks.length - f)).length = ks.length - f := by rw [List.length_take, List.length_drop]; exact Nat.min_self _
  have hdd : (ks.drop f).take (ks.length - f) = ks.drop f := List.take_of_length_le (by rw [List.length_drop]; exact Nat.le_refl _)
  have hjoin : ks.take f ++ (ks.drop f).take (ks.length - f) = ks := by rw [hdd]; exact List.take_append_drop f ks
  refine spec_enter Tryz.func6 rfl Tryz.ntmps6 rfl ?_
  intro u R
  refine at_slots (env' := [(0, _), (1, _)]) [0, 1] rfl (fun _ => rfl) ?_
  refine at_seq ?_
  refine at_region ?_
  refine op_w (p_assign (fun _ => rfl)) rfl rfl ?_
  refine ops_nil ?_
  refine nx_slots (env' := [(0, _), (1, _)]) [0, 1] rfl (fun _ => rfl) ?_
  refine nx_next ?_
  refine at_seq ?_
  refine at_region ?_
  refine op_e (w_callR (vs := []) (fun _ => rfl) Tryz.call7 (fun _ => rfl) rfl (sane24 pa Tx Tg zx zg) (by repeat (first | exact Pull.nil _ | (apply Pull.cons; (focus (repeat (first | exact One.here _ _ | apply One.there))))))) (fun _ => rfl) rfl rfl ?_
  rintro _ _ ⟨rfl, rfl⟩
  refine op_w (p_assign (fun _ => rfl)) rfl rfl ?_
  refine ops_nil ?_
  refine nx_slots (env' := [(0, _), (1, _), (5, _)]) [0, 1, 5] rfl (fun _ => rfl) ?_
  refine nx_next ?_
  refine at_seq ?_
  refine at_region ?_
  refine op_w (p_move (fun _ => rfl)) rfl rfl ?_
  refine ops_eff (fun _ => rfl) (fits_of rfl) rfl (w_call (vs := [_]) (fun _ => rfl) Tryz.call12 (fun _ => rfl) rfl (few_mem hls) (by repeat (first | exact Pull.nil _ | (apply Pull.cons; (focus (repeat (first | exact One.here _ _ | apply One.there))))))) ?_ no_pan
  rintro _ _ ⟨_, ⟨sf, hf, rfl⟩, rfl⟩
  rw [← hks] at hf
  obtain ⟨gl, cl, rfl⟩ := hf.form
  have hcl : ks.length ≤ cl := by
    obtain ⟨_, _, he, h⟩ := hf.le
    injection he with _ _ e3
    rw [List.length_map] at h
    omega
  rw [List.length_map] at hf ⊢
  refine op_w (p_assign (fun _ => rfl)) rfl rfl ?_
  refine ops_nil ?_
  refine nx_slots (env' := [(0, _), (1, _), (5, _)]) [0, 1, 5] rfl (fun _ => rfl) ?_
  refine nx_next ?_
  refine at_seq ?_
  refine at_region ?_
  refine op_w (p_move (fun _ => rfl)) rfl rfl ?_
  refine op_w (p_move (fun _ => rfl)) rfl rfl ?_
  refine op_w (p_len_slice Tryz.underlying34 (fun _ => rfl)) rfl rfl ?_
  first | (refine op_w (p_add_nat (n := 1) (fun _ => rfl) (fun _ => rfl) ?_) rfl rfl ?_; (focus (omega))) | (refine op_w (p_add (fun _ => rfl) (fun _ => rfl) (IntWalk.i64_in _ ?_)) rfl rfl ?_; (focus (omega)))
  refine op_e (w_callR (vs := [_, _]) (fun _ => rfl) Tryz.call18 (fun _ => rfl) rfl (pick_spec first (ks.length + 1) (by omega) (by omega) m1 m2) (by repeat (first | exact Pull.nil _ | (apply Pull.cons; (focus (repeat (first | exact One.here _ _ | apply One.there))))))) (fun _ => rfl) rfl rfl ?_
  rintro _ _ ⟨rfl, rfl⟩
  rw [← hf9]
  refine op_w (p_assign (fun _ => rfl)) rfl rfl ?_
  refine ops_nil ?_
  refine nx_slots (env' := [(0, _), (1, _), (5, _)]) [0, 1, 5] rfl (fun _ => rfl) ?_
  refine nx_next ?_
  refine at_seq ?_
  refine at_seq ?_
  refine at_region ?_
  refine op_w (p_assign (fun _ => rfl)) rfl rfl ?_
  refine ops_nil ?_
  refine nx_slots (env' := [(0, _), (1, _), (5, _), (6, _)]) [0, 1, 5, 6] rfl (fun _ => rfl) ?_
  refine nx_next ?_
  refine at_block ?_
  refine at_slots (env' := [(6, _), (0, _), (1, _), (5, _)]) [6, 0, 1, 5] rfl (fun _ => rfl) ?_
  refine at_loopB (e0 := [(6, _)]) (H0 := _) (n := _) (fun m e H => ∃ (i : Nat), m = 4 - i ∧ (i ≤ 4) ∧ e = [(6, .int .i64 (i : Int))] ∧ H = []) (by exact ⟨0, rfl, Nat.zero_le _, rfl, rfl⟩) (by repeat (first | exact Pull.nil _ | (apply Pull.cons; (focus (repeat (first | exact One.here _ _ | apply One.there)))))) ?_
  rintro _ _ _ ⟨i, rfl, hii, rfl, rfl⟩
  refine at_seq ?_
  refine at_seq ?_
  refine at_region ?_
  refine op_w (p_move (fun _ => rfl)) rfl rfl ?_
  first | refine op_w (p_lss_nat (n := 4) (fun _ => rfl) (fun _ => rfl)) rfl rfl ?_ | refine op_w (p_lss (fun _ => rfl) (fun _ => rfl)) rfl rfl ?_
  refine ops_nil ?_
  refine nx_slots (env' := [(0, _), (1, _), (5, _), (6, _), (26, _)]) [0, 1, 5, 6, 26] rfl (fun _ => rfl) ?_
  refine nx_next ?_
  first | refine at_if (fun _ => rfl) (fun hi4 => ?_) (fun hi4 => ?_) | refine at_if_bool (fun _ => rfl) (fun hi4 => ?_) (fun hi4 => ?_)
  ·
    refine at_skip ?_
    refine nx_next ?_
    refine at_seq ?_
    refine at_block ?_
    refine at_seq ?_
    refine at_region ?_
    refine ops_eff (fun _ => rfl) (fits_of rfl) rfl (w_call (vs := [_]) (fun _ => rfl) Tryz.call8 (fun _ => rfl) rfl (new_state 2000 (by decide) (by decide)) (by repeat (first | exact Pull.nil _ | (apply Pull.cons; (focus (repeat (first | exact One.here _ _ | apply One.there))))))) ?_ no_pan
    rintro _ _ ⟨_, ⟨a, sda, rfl, rfl, hRa⟩, rfl⟩
    have hDa := JD.new 2000 (by decide)
    have hva := disk_new_len 2000
    obtain ⟨csa, hca⟩ := hRa.cell
    refine op_w (p_move (fun _ => rfl)) rfl rfl ?_
    refine op_w (p_extract (fun _ => rfl) rfl) rfl rfl ?_
    refine op_w (p_extract (fun _ => rfl) rfl) rfl rfl ?_
    refine op_w (p_assign (fun _ => rfl)) rfl rfl ?_
    refine op_w (p_assign (fun _ => rfl)) rfl rfl ?_
    refine ops_nil ?_
    refine nx_slots (env' := [(0, _), (1, _), (5, _), (6, _), (7, _)]) [0, 1, 5, 6, 7] rfl (fun _ => rfl) ?_
    refine nx_next ?_
    refine at_seq ?_
    refine at_region ?_
    refine ops_eff (fun _ => rfl) (fits_of rfl) rfl (w_call (vs := [_]) (fun _ => rfl) Tryz.call8 (fun _ => rfl) rfl (new_state 2000 (by decide) (by decide)) (by repeat (first | exact Pull.nil _ | (apply Pull.cons; (focus (repeat (first | exact One.here _ _ | apply One.there))))))) ?_ no_pan
    rintro _ _ ⟨_, ⟨b, sdb, rfl, rfl, hRb⟩, rfl⟩
    obtain ⟨csb, hcb⟩ := hRb.cell
    refine op_w (p_move (fun _ => rfl)) rfl rfl ?_
    refine op_w (p_extract (fun _ => rfl) rfl) rfl rfl ?_
    refine op_w (p_extract (fun _ => rfl) rfl) rfl rfl ?_
    refine op_w (p_assign (fun _ => rfl)) rfl rfl ?_
    refine op_w (p_assign (fun _ => rfl)) rfl rfl ?_
    refine ops_nil ?_
    refine nx_slots (env' := [(0, _), (1, _), (5, _), (6, _), (7, _), (9, _)]) [0, 1, 5, 6, 7, 9] rfl (fun _ => rfl) ?_
    refine nx_next ?_
    refine at_seq ?_
    refine at_ne (s1 := sda) (s2 := sdb) (by repeat (first | exact One.here _ _ | apply One.there)) (by repeat (first | exact One.here _ _ | apply One.there)) hca hcb (fun hab => ?_)
    refine at_region ?_
    refine op_w (p_move (fun _ => rfl)) rfl rfl ?_
    refine op_w (p_move (fun _ => rfl)) rfl rfl ?_
    refine ops_eff (fun _ => rfl) (fits_of rfl) rfl (w_call (vs := [_, _]) (fun _ => rfl) Tryz.call10 (fun _ => rfl) rfl (sn_new a b _ _ sda sdb pa Tx Tg zx zg hab hDa hDa hRa hRb (by omega)) (by repeat (first | exact Pull.nil _ | (apply Pull.cons; (focus (repeat (first | exact One.here _ _ | apply One.there))))))) ?_ no_pan
    rintro _ _ ⟨_, ⟨s0, sp, c, o, ss0, sc0, so0, sda1, rfl, hS0, hg0, hi0, hz0, hl0, hod0, hR0, rfl⟩, rfl⟩
    rw [hva] at hl0
    refine op_w (p_move (fun _ => rfl)) rfl rfl ?_
    refine op_w (p_extract (fun _ => rfl) rfl) rfl rfl ?_
    refine op_w (p_extract (fun _ => rfl) rfl) rfl rfl ?_
    refine op_w (p_assign (fun _ => rfl)) rfl rfl ?_
    refine op_w (p_assign (fun _ => rfl)) rfl rfl ?_
    refine ops_nil ?_
    refine nx_slots (env' := [(0, _), (1, _), (5, _), (6, _), (7, _), (9, _), (11, _), (12, _)]) [0, 1, 5, 6, 7, 9, 11, 12] rfl (fun _ => rfl) ?_
    refine nx_next ?_
    refine at_seq ?_
    refine at_seq ?_
    refine at_region ?_
    refine op_w (p_move (fun _ => rfl)) rfl rfl ?_
    first | refine op_w (p_neq_nat (n := 0) (fun _ => rfl) (fun _ => rfl)) rfl rfl ?_ | refine op_w (p_neq (fun _ => rfl) (fun _ => rfl)) rfl rfl ?_
    refine op_w (p_move (fun _ => rfl)) rfl rfl ?_
    first | refine ops_split (t := 45) (fun _ => rfl) rfl (fun hgg1 => ?_) (fun hgg1 => ?_) | refine ops_split_bool (t := 45) (fun _ => rfl) rfl (fun hgg1 => ?_) (fun hgg1 => ?_)
    ·
      exfalso; first | exact hgg1 rfl | (cases hgg1; done) | contradiction | omega | (simp at hgg1; done) | (simp at hgg1; omega) | (simp_all; done) | (simp_all; omega)
    ·
      refine op_wg (fun _ => rfl) (p_move (fun _ => rfl)) rfl rfl ?_
      first | refine op_wg (fun _ => rfl) (p_eql_nil_nil Tryz.underlying30 (fun _ => rfl) (fun _ => rfl)) rfl rfl ?_ | refine op_wg (fun _ => rfl) (p_eql_ptr_nil Tryz.underlying30 (fun _ => rfl) (fun _ => rfl)) rfl rfl ?_
      refine op_w (p_pick_f (fun _ => rfl) (fun _ => rfl)) rfl rfl ?_
      refine ops_nil ?_
      refine nx_slots (env' := [(0, _), (1, _), (5, _), (6, _), (7, _), (9, _), (11, _), (48, _)]) [0, 1, 5, 6, 7, 9, 11, 48] rfl (fun _ => rfl) ?_
      refine nx_next ?_
      refine at_if_bool (fun _ => rfl) (fun hgg2 => ?_) (fun hgg2 => ?_)
      ·
        exfalso; first | exact hgg2 rfl | (cases hgg2; done) | contradiction | omega | (simp at hgg2; done) | (simp at hgg2; omega) | (simp_all; done) | (simp_all; omega)
      ·
        refine at_skip ?_
        refine nx_next ?_
        refine at_seq ?_
        refine at_region ?_
        refine op_w (p_assign (fun _ => rfl)) rfl rfl ?_
        refine ops_nil ?_
        refine nx_slots (env' := [(0, _), (1, _), (5, _), (6, _), (7, _), (9, _), (11, _), (13, _)]) [0, 1, 5, 6, 7, 9, 11, 13] rfl (fun _ => rfl) ?_
        refine nx_next ?_
        refine at_seq ?_
        refine at_seq ?_
        refine at_region ?_
        refine op_w (p_move (fun _ => rfl)) rfl rfl ?_
        refine ops_nil ?_
        refine nx_slots (env' := [(0, _), (1, _), (5, _), (6, _), (7, _), (9, _), (11, _), (13, _), (49, _)]) [0, 1, 5, 6, 7, 9, 11, 13, 49] rfl (fun _ => rfl) ?_
        refine nx_next ?_
        refine at_block ?_
        refine at_seq ?_
        refine at_region ?_
        first | refine op_w (p_eql_nat (n := 0) (fun _ => rfl) (fun _ => rfl)) rfl rfl ?_ | refine op_w (p_eql (fun _ => rfl) (fun _ => rfl)) rfl rfl ?_
        refine op_w (p_assign (fun _ => rfl)) rfl rfl ?_
        refine ops_nil ?_
        refine nx_slots (env' := [(0, _), (1, _), (5, _), (6, _), (7, _), (9, _), (11, _), (13, _), (49, _), (50, _)]) [0, 1, 5, 6, 7, 9, 11, 13, 49, 50] rfl (fun _ => rfl) ?_
        refine nx_next ?_
        first | refine at_if (fun _ => rfl) (fun hc0 => ?_) (fun hc0 => ?_) | refine at_if_bool (fun _ => rfl) (fun hc0 => ?_) (fun hc0 => ?_)
        ·
          refine at_region ?_
          refine op_w (p_move (fun _ => rfl)) rfl rfl ?_
          refine op_w (p_move (fun _ => rfl)) rfl rfl ?_
          refine ops_eff (fun _ => rfl) (fits_of rfl) rfl (w_call (vs := [_, _]) (fun _ => rfl) Tryz.call13 (fun _ => rfl) rfl (sn_append_sub s0 sp c a o b ss0 sc0 so0 sda1 sdb sf _ (ks) Tg zg hS0 hR0 (row_sub hf) (by have := hk6; omega) (short_any hk100)) (by repeat (first | exact Pull.nil _ | (apply Pull.cons; (focus (repeat (first | exact One.here _ _ | apply One.there))))))) ?_ no_pan
          rintro _ _ ⟨_, ⟨eA, sA, ssA, scA, scaA, rfl, hSA, hgA, hoA, hodA, hlA, hxA, hRA, rfl⟩, rfl⟩
          have hbdA := items_bound (ks) hk100 s0.cur.h
          have hnnA := hk6
          rw [hl0] at hlA hxA
          have hyA : eA = 0 ∧ sA.its = s0.its ++ ks ∧ sA.cur.sz ≤ s0.cur.sz + 143 * (ks).length := by
            rcases hxA with ⟨h, _⟩ | ⟨_, h1, h2, h3⟩
            · exfalso; omega
            · exact ⟨h1, h2, by omega⟩
          obtain ⟨rfl, hiA, hzA⟩ := hyA
          have hits : sA.its = ks := by rw [hiA, hi0]; rfl
          first | refine op_w (p_eql_nat (n := 0) (fun _ => rfl) (fun _ => rfl)) rfl rfl ?_ | refine op_w (p_eql (fun _ => rfl) (fun _ => rfl)) rfl rfl ?_
          refine op_w (p_assign (fun _ => rfl)) rfl rfl ?_
          refine ops_nil ?_
          refine nx_slots (env' := [(0, _), (1, _), (5, _), (6, _), (7, _), (9, _), (11, _), (13, _)]) [0, 1, 5, 6, 7, 9, 11, 13] rfl (fun _ => rfl) ?_
          refine nx_block_normal ?_
          refine nx_next ?_
          refine at_seq ?_
          refine at_region ?_
          refine op_w (p_move (fun _ => rfl)) rfl rfl ?_
          refine op_w (p_move (fun _ => rfl)) rfl rfl ?_
          refine ops_eff (fun _ => rfl) (fits_of rfl) rfl (w_call (vs := [_, _]) (fun _ => rfl) Tryz.call10 (fun _ => rfl) rfl (sn_reopen sA a b a b scaA sdb pa Tx Tg zx zg hSA hab (.inl ⟨rfl, rfl⟩) hRA.2.2.1 hRA.2.2.2.1) (by repeat (first | exact Pull.nil _ | (apply Pull.cons; (focus (repeat (first | exact One.here _ _ | apply One.there))))))) ?_ no_pan
          rintro _ _ ⟨_, ⟨sp2, c2, o2, ss2, sc2, so2, rfl, hR2, rfl⟩, rfl⟩
          refine op_w (p_move (fun _ => rfl)) rfl rfl ?_
          refine op_w (p_extract (fun _ => rfl) rfl) rfl rfl ?_
          refine op_w (p_extract (fun _ => rfl) rfl) rfl rfl ?_
          refine op_w (p_assign (fun _ => rfl)) rfl rfl ?_
          refine op_w (p_assign (fun _ => rfl)) rfl rfl ?_
          refine ops_nil ?_
          refine nx_slots (env' := [(0, _), (1, _), (5, _), (6, _), (11, _), (13, _), (15, _), (16, _)]) [0, 1, 5, 6, 11, 13, 15, 16] rfl (fun _ => rfl) ?_
          refine nx_next ?_
          refine at_seq ?_
          refine at_region ?_
          refine op_w (p_move (fun _ => rfl)) rfl rfl ?_
          first | refine op_w (p_not_dec (fun _ => rfl)) rfl rfl ?_ | refine op_w (p_not (fun _ => rfl)) rfl rfl ?_
          refine op_w (p_move (fun _ => rfl)) rfl rfl ?_
          first | refine ops_split (t := 123) (fun _ => rfl) rfl (fun hw1 => ?_) (fun hw1 => ?_) | refine ops_split_bool (t := 123) (fun _ => rfl) rfl (fun hw1 => ?_) (fun hw1 => ?_)
          ·
            exfalso; simp at hw1
          ·
            refine op_wg (fun _ => rfl) (p_move (fun _ => rfl)) rfl rfl ?_
            first | refine op_wg (fun _ => rfl) (p_neq_nat (n := 0) (fun _ => rfl) (fun _ => rfl)) rfl rfl ?_ | refine op_wg (fun _ => rfl) (p_neq (fun _ => rfl) (fun _ => rfl)) rfl rfl ?_
            refine op_w (p_pick_f (fun _ => rfl) (fun _ => rfl)) rfl rfl ?_
            refine op_w (p_move (fun _ => rfl)) rfl rfl ?_
            first | refine ops_split (t := 127) (fun _ => rfl) rfl (fun hw2 => ?_) (fun hw2 => ?_) | refine ops_split_bool (t := 127) (fun _ => rfl) rfl (fun hw2 => ?_) (fun hw2 => ?_)
            ·
              exfalso; first | exact hw2 rfl | (cases hw2; done) | contradiction | omega | (simp at hw2; done) | (simp at hw2; omega) | (simp_all; done) | (simp_all; omega)
            ·
              refine op_wg (fun _ => rfl) (p_move (fun _ => rfl)) rfl rfl ?_
              first | refine op_wg (fun _ => rfl) (p_eql_nil_nil Tryz.underlying30 (fun _ => rfl) (fun _ => rfl)) rfl rfl ?_ | refine op_wg (fun _ => rfl) (p_eql_ptr_nil Tryz.underlying30 (fun _ => rfl) (fun _ => rfl)) rfl rfl ?_
              refine op_w (p_pick_f (fun _ => rfl) (fun _ => rfl)) rfl rfl ?_
              refine op_w (p_move (fun _ => rfl)) rfl rfl ?_
              refine ops_split_bool (t := 131) (fun _ => rfl) rfl (fun hw3 => ?_) (fun hw3 => ?_)
              ·
                cases hw3
              ·
                refine op_wg (fun _ => rfl) (p_move (fun _ => rfl)) rfl rfl ?_
                refine ops_eff (fun _ => rfl) (fits_of rfl) rfl (w_call (vs := [_]) (fun _ => rfl) Tryz.call14 (fun _ => rfl) rfl (sn_items sA sp c a o b ssA scA so0 scaA sdb hSA hRA) (by repeat (first | exact Pull.nil _ | (apply Pull.cons; (focus (repeat (first | exact One.here _ _ | apply One.there))))))) ?_ no_pan
                rintro _ _ ⟨_, ⟨sv1, hv1, rfl⟩, rfl⟩
                rw [hits] at hv1
                refine op_wg (fun _ => rfl) (p_move (fun _ => rfl)) rfl rfl ?_
                refine op_e (w_callR (vs := [_, _]) (fun _ => rfl) Tryz.call15 (fun _ => rfl) rfl (same_rows hv1 hf (by omega)) (by repeat (first | exact Pull.nil _ | (apply Pull.cons; (focus (repeat (first | exact One.here _ _ | apply One.there))))))) (fun _ => rfl) rfl rfl ?_
                rintro _ _ ⟨rfl, rfl⟩
                first | refine op_wg (fun _ => rfl) (p_not_dec (fun _ => rfl)) rfl rfl ?_ | refine op_wg (fun _ => rfl) (p_not (fun _ => rfl)) rfl rfl ?_
                refine op_w (p_pick_f (fun _ => rfl) (fun _ => rfl)) rfl rfl ?_
                refine op_w (p_move (fun _ => rfl)) rfl rfl ?_
                first | refine ops_split (t := 138) (fun _ => rfl) rfl (fun hw4 => ?_) (fun hw4 => ?_) | refine ops_split_bool (t := 138) (fun _ => rfl) rfl (fun hw4 => ?_) (fun hw4 => ?_)
                ·
                  exfalso; simp at hw4
                ·
                  refine op_wg (fun _ => rfl) (p_move (fun _ => rfl)) rfl rfl ?_
                  refine ops_eff (fun _ => rfl) (fits_of rfl) rfl (w_call (vs := [_]) (fun _ => rfl) Tryz.call14 (fun _ => rfl) rfl (sn_items sA sp2 c2 a o2 b ss2 sc2 so2 scaA sdb hSA hR2) (by repeat (first | exact Pull.nil _ | (apply Pull.cons; (focus (repeat (first | exact One.here _ _ | apply One.there))))))) ?_ no_pan
                  rintro _ _ ⟨_, ⟨sv2, hv2, rfl⟩, rfl⟩
                  rw [hits] at hv2
                  refine op_wg (fun _ => rfl) (p_move (fun _ => rfl)) rfl rfl ?_
                  refine op_e (w_callR (vs := [_, _]) (fun _ => rfl) Tryz.call15 (fun _ => rfl) rfl (same_rows hv2 hf (by omega)) (by repeat (first | exact Pull.nil _ | (apply Pull.cons; (focus (repeat (first | exact One.here _ _ | apply One.there))))))) (fun _ => rfl) rfl rfl ?_
                  rintro _ _ ⟨rfl, rfl⟩
                  first | refine op_wg (fun _ => rfl) (p_not_dec (fun _ => rfl)) rfl rfl ?_ | refine op_wg (fun _ => rfl) (p_not (fun _ => rfl)) rfl rfl ?_
                  refine op_w (p_pick_f (fun _ => rfl) (fun _ => rfl)) rfl rfl ?_
                  refine ops_nil ?_
                  refine nx_slots (env' := [(0, _), (1, _), (5, _), (6, _), (144, _)]) [0, 1, 5, 6, 144] rfl (fun _ => rfl) ?_
                  refine nx_next ?_
                  first | refine at_if (fun _ => rfl) (fun hw5 => ?_) (fun hw5 => ?_) | refine at_if_bool (fun _ => rfl) (fun hw5 => ?_) (fun hw5 => ?_)
                  ·
                    exfalso; simp at hw5
                  ·
                    refine at_skip ?_
                    refine nx_block_normal ?_
                    refine nx_next ?_
                    refine at_region ?_
                    refine op_w (p_move (fun _ => rfl)) rfl rfl ?_
                    first | (refine op_w (p_add_nat (n := 1) (fun _ => rfl) (fun _ => rfl) ?_) rfl rfl ?_; (focus (omega))) | (refine op_w (p_add (fun _ => rfl) (fun _ => rfl) (IntWalk.i64_in _ ?_)) rfl rfl ?_; (focus (omega)))
                    refine op_w (p_assign (fun _ => rfl)) rfl rfl ?_
                    refine ops_nil ?_
                    refine nx_slots (env' := [(0, _), (1, _), (5, _), (6, _)]) [0, 1, 5, 6] rfl (fun _ => rfl) ?_
                    refine nx_slots (env' := [(6, _), (0, _), (1, _), (5, _)]) [6, 0, 1, 5] rfl (fun _ => rfl) ?_
                    refine nx_againB (e' := [(6, _)]) (m := _) (H' := _) (by exact ⟨i + 1, rfl, by omega, rfl, rfl⟩) ?hm_2 ?hp_2
                    case hm_2 => omega
                    case hp_2 => repeat (first | exact Sub.refl _ | exact Sub.nil _ | (apply Sub.cons; (focus (repeat (first | exact One.here _ _ | apply One.there)))) | refine Sub.drop _ ?_)
        ·
          refine at_seq ?_
          refine at_region ?_
          first | refine op_w (p_eql_nat (n := 1) (fun _ => rfl) (fun _ => rfl)) rfl rfl ?_ | refine op_w (p_eql (fun _ => rfl) (fun _ => rfl)) rfl rfl ?_
          refine op_w (p_assign (fun _ => rfl)) rfl rfl ?_
          refine ops_nil ?_
          refine nx_slots (env' := [(0, _), (1, _), (5, _), (6, _), (7, _), (9, _), (11, _), (13, _), (49, _), (56, _)]) [0, 1, 5, 6, 7, 9, 11, 13, 49, 56] rfl (fun _ => rfl) ?_
          refine nx_next ?_
          first | refine at_if (fun _ => rfl) (fun hc1 => ?_) (fun hc1 => ?_) | refine at_if_bool (fun _ => rfl) (fun hc1 => ?_) (fun hc1 => ?_)
          ·
            refine at_region ?_
            refine op_w (p_move (fun _ => rfl)) rfl rfl ?_
            refine op_w (p_move (fun _ => rfl)) rfl rfl ?_
            refine op_w (p_move (fun _ => rfl)) rfl rfl ?_
            (refine op_w (p_slice_slice_to Tryz.underlying34 Tryz.sizeOf9 (fun _ => rfl) (fun _ => rfl) ?_) rfl rfl ?_; (focus (omega)))
            refine ops_eff (fun _ => rfl) (fits_of rfl) rfl (w_call (vs := [_, _]) (fun _ => rfl) Tryz.call13 (fun _ => rfl) rfl (sn_append_sub s0 sp c a o b ss0 sc0 so0 sda1 sdb sf _ (ks.take f) Tg zg hS0 hR0 (row_sub (by have := row_take hf f (by simp; omega); rw [← List.map_take] at this; exact this)) (by have := hltk; omega) (short_any htk100)) (by repeat (first | exact Pull.nil _ | (apply Pull.cons; (focus (repeat (first | exact One.here _ _ | apply One.there))))))) ?_ no_pan
            rintro _ _ ⟨_, ⟨eB, sB, ssB, scB, scaB, rfl, hSB, hgB, hoB, hodB, hlB, hxB, hRB, rfl⟩, rfl⟩
            have hbdB := items_bound (ks.take f) htk100 s0.cur.h
            have hnnB := hltk
            rw [hl0] at hlB hxB
            have hyB : eB = 0 ∧ sB.its = s0.its ++ ks.take f ∧ sB.cur.sz ≤ s0.cur.sz + 143 * (ks.take f).length := by
              rcases hxB with ⟨h, _⟩ | ⟨_, h1, h2, h3⟩
              · exfalso; omega
              · exact ⟨h1, h2, by omega⟩
            obtain ⟨rfl, hiB, hzB⟩ := hyB
            first | refine op_w (p_eql_nat (n := 0) (fun _ => rfl) (fun _ => rfl)) rfl rfl ?_ | refine op_w (p_eql (fun _ => rfl) (fun _ => rfl)) rfl rfl ?_
            refine op_w (p_move (fun _ => rfl)) rfl rfl ?_
            first | refine ops_split (t := 64) (fun _ => rfl) rfl (fun hd1 => ?_) (fun hd1 => ?_) | refine ops_split_bool (t := 64) (fun _ => rfl) rfl (fun hd1 => ?_) (fun hd1 => ?_)
            ·
              refine op_wg (fun _ => rfl) (p_move (fun _ => rfl)) rfl rfl ?_
              refine op_wg (fun _ => rfl) (p_move (fun _ => rfl)) rfl rfl ?_
              refine op_wg (fun _ => rfl) (p_move (fun _ => rfl)) rfl rfl ?_
              (refine op_wg (fun _ => rfl) (p_slice_slice_from Tryz.underlying34 Tryz.sizeOf9 (fun _ => rfl) (fun _ => rfl) ?_) rfl rfl ?_; (focus (omega)))
              refine ops_eff (fun _ => rfl) (fits_of rfl) rfl (w_call (vs := [_, _]) (fun _ => rfl) Tryz.call13 (fun _ => rfl) rfl (sn_append_sub sB sp c a o b ssB scB so0 scaB sdb sf _ ((ks.drop f).take (ks.length - f)) Tg zg hSB hRB (by have := sub_from hf f (ks.length - f) (by simp; omega) (cl - f); rw [← List.map_drop, ← List.map_take] at this; exact this) (by have := hldr; omega) (short_any hdr100)) (by repeat (first | exact Pull.nil _ | (apply Pull.cons; (focus (repeat (first | exact One.here _ _ | apply One.there))))))) ?_ no_pan
              rintro _ _ ⟨_, ⟨eC, sC, ssC, scC, scaC, rfl, hSC, hgC, hoC, hodC, hlC, hxC, hRC, rfl⟩, rfl⟩
              have hbdC := items_bound ((ks.drop f).take (ks.length - f)) hdr100 sB.cur.h
              have hnnC := hldr
              rw [hlB] at hlC hxC
              have hyC : eC = 0 ∧ sC.its = sB.its ++ (ks.drop f).take (ks.length - f) ∧ sC.cur.sz ≤ sB.cur.sz + 143 * ((ks.drop f).take (ks.length - f)).length := by
                rcases hxC with ⟨h, _⟩ | ⟨_, h1, h2, h3⟩
                · exfalso; omega
                · exact ⟨h1, h2, by omega⟩
              obtain ⟨rfl, hiC, hzC⟩ := hyC
              have hits : sC.its = ks := by rw [hiC, hiB, hi0, List.nil_append]; exact hjoin
              first | refine op_wg (fun _ => rfl) (p_eql_nat (n := 0) (fun _ => rfl) (fun _ => rfl)) rfl rfl ?_ | refine op_wg (fun _ => rfl) (p_eql (fun _ => rfl) (fun _ => rfl)) rfl rfl ?_
              refine op_w (p_pick_t (fun _ => rfl) (fun _ => rfl)) rfl rfl ?_
              refine op_w (p_assign (fun _ => rfl)) rfl rfl ?_
              refine ops_nil ?_
              refine nx_slots (env' := [(0, _), (1, _), (5, _), (6, _), (7, _), (9, _), (11, _), (13, _)]) [0, 1, 5, 6, 7, 9, 11, 13] rfl (fun _ => rfl) ?_
              refine nx_block_normal ?_
              refine nx_next ?_
              refine at_seq ?_
              refine at_region ?_
              refine op_w (p_move (fun _ => rfl)) rfl rfl ?_
              refine op_w (p_move (fun _ => rfl)) rfl rfl ?_
              refine ops_eff (fun _ => rfl) (fits_of rfl) rfl (w_call (vs := [_, _]) (fun _ => rfl) Tryz.call10 (fun _ => rfl) rfl (sn_reopen sC a b a b scaC sdb pa Tx Tg zx zg hSC hab (.inl ⟨rfl, rfl⟩) hRC.2.2.1 hRC.2.2.2.1) (by repeat (first | exact Pull.nil _ | (apply Pull.cons; (focus (repeat (first | exact One.here _ _ | apply One.there))))))) ?_ no_pan
              rintro _ _ ⟨_, ⟨sp2, c2, o2, ss2, sc2, so2, rfl, hR2, rfl⟩, rfl⟩
              refine op_w (p_move (fun _ => rfl)) rfl rfl ?_
              refine op_w (p_extract (fun _ => rfl) rfl) rfl rfl ?_
              refine op_w (p_extract (fun _ => rfl) rfl) rfl rfl ?_
              refine op_w (p_assign (fun _ => rfl)) rfl rfl ?_
              refine op_w (p_assign (fun _ => rfl)) rfl rfl ?_
              refine ops_nil ?_
              refine nx_slots (env' := [(0, _), (1, _), (5, _), (6, _), (11, _), (13, _), (15, _), (16, _)]) [0, 1, 5, 6, 11, 13, 15, 16] rfl (fun _ => rfl) ?_
              refine nx_next ?_
              refine at_seq ?_
              refine at_region ?_
              refine op_w (p_move (fun _ => rfl)) rfl rfl ?_
              first | refine op_w (p_not_dec (fun _ => rfl)) rfl rfl ?_ | refine op_w (p_not (fun _ => rfl)) rfl rfl ?_
              refine op_w (p_move (fun _ => rfl)) rfl rfl ?_
              first | refine ops_split (t := 123) (fun _ => rfl) rfl (fun hw1 => ?_) (fun hw1 => ?_) | refine ops_split_bool (t := 123) (fun _ => rfl) rfl (fun hw1 => ?_) (fun hw1 => ?_)
              ·
                exfalso; simp at hw1
              ·
                refine op_wg (fun _ => rfl) (p_move (fun _ => rfl)) rfl rfl ?_
                first | refine op_wg (fun _ => rfl) (p_neq_nat (n := 0) (fun _ => rfl) (fun _ => rfl)) rfl rfl ?_ | refine op_wg (fun _ => rfl) (p_neq (fun _ => rfl) (fun _ => rfl)) rfl rfl ?_
                refine op_w (p_pick_f (fun _ => rfl) (fun _ => rfl)) rfl rfl ?_
                refine op_w (p_move (fun _ => rfl)) rfl rfl ?_
                first | refine ops_split (t := 127) (fun _ => rfl) rfl (fun hw2 => ?_) (fun hw2 => ?_) | refine ops_split_bool (t := 127) (fun _ => rfl) rfl (fun hw2 => ?_) (fun hw2 => ?_)
                ·
                  exfalso; first | exact hw2 rfl | (cases hw2; done) | contradiction | omega | (simp at hw2; done) | (simp at hw2; omega) | (simp_all; done) | (simp_all; omega)
                ·
                  refine op_wg (fun _ => rfl) (p_move (fun _ => rfl)) rfl rfl ?_
                  first | refine op_wg (fun _ => rfl) (p_eql_nil_nil Tryz.underlying30 (fun _ => rfl) (fun _ => rfl)) rfl rfl ?_ | refine op_wg (fun _ => rfl) (p_eql_ptr_nil Tryz.underlying30 (fun _ => rfl) (fun _ => rfl)) rfl rfl ?_
                  refine op_w (p_pick_f (fun _ => rfl) (fun _ => rfl)) rfl rfl ?_
                  refine op_w (p_move (fun _ => rfl)) rfl rfl ?_
                  refine ops_split_bool (t := 131) (fun _ => rfl) rfl (fun hw3 => ?_) (fun hw3 => ?_)
                  ·
                    cases hw3
                  ·
                    refine op_wg (fun _ => rfl) (p_move (fun _ => rfl)) rfl rfl ?_
                    refine ops_eff (fun _ => rfl) (fits_of rfl) rfl (w_call (vs := [_]) (fun _ => rfl) Tryz.call14 (fun _ => rfl) rfl (sn_items sC sp c a o b ssC scC so0 scaC sdb hSC hRC) (by repeat (first | exact Pull.nil _ | (apply Pull.cons; (focus (repeat (first | exact One.here _ _ | apply One.there))))))) ?_ no_pan
                    rintro _ _ ⟨_, ⟨sv1, hv1, rfl⟩, rfl⟩
                    rw [hits] at hv1
                    refine op_wg (fun _ => rfl) (p_move (fun _ => rfl)) rfl rfl ?_
                    refine op_e (w_callR (vs := [_, _]) (fun _ => rfl) Tryz.call15 (fun _ => rfl) rfl (same_rows hv1 hf (by omega)) (by repeat (first | exact Pull.nil _ | (apply Pull.cons; (focus (repeat (first | exact One.here _ _ | apply One.there))))))) (fun _ => rfl) rfl rfl ?_
                    rintro _ _ ⟨rfl, rfl⟩
                    first | refine op_wg (fun _ => rfl) (p_not_dec (fun _ => rfl)) rfl rfl ?_ | refine op_wg (fun _ => rfl) (p_not (fun _ => rfl)) rfl rfl ?_
                    refine op_w (p_pick_f (fun _ => rfl) (fun _ => rfl)) rfl rfl ?_
                    refine op_w (p_move (fun _ => rfl)) rfl rfl ?_
                    first | refine ops_split (t := 138) (fun _ => rfl) rfl (fun hw4 => ?_) (fun hw4 => ?_) | refine ops_split_bool (t := 138) (fun _ => rfl) rfl (fun hw4 => ?_) (fun hw4 => ?_)
                    ·
                      exfalso; simp at hw4
                    ·
                      refine op_wg (fun _ => rfl) (p_move (fun _ => rfl)) rfl rfl ?_
                      refine ops_eff (fun _ => rfl) (fits_of rfl) rfl (w_call (vs := [_]) (fun _ => rfl) Tryz.call14 (fun _ => rfl) rfl (sn_items sC sp2 c2 a o2 b ss2 sc2 so2 scaC sdb hSC hR2) (by repeat (first | exact Pull.nil _ | (apply Pull.cons; (focus (repeat (first | exact One.here _ _ | apply One.there))))))) ?_ no_pan
                      rintro _ _ ⟨_, ⟨sv2, hv2, rfl⟩, rfl⟩
                      rw [hits] at hv2
                      refine op_wg (fun _ => rfl) (p_move (fun _ => rfl)) rfl rfl ?_
                      refine op_e (w_callR (vs := [_, _]) (fun _ => rfl) Tryz.call15 (fun _ => rfl) rfl (same_rows hv2 hf (by omega)) (by repeat (first | exact Pull.nil _ | (apply Pull.cons; (focus (repeat (first | exact One.here _ _ | apply One.there))))))) (fun _ => rfl) rfl rfl ?_
                      rintro _ _ ⟨rfl, rfl⟩
                      first | refine op_wg (fun _ => rfl) (p_not_dec (fun _ => rfl)) rfl rfl ?_ | refine op_wg (fun _ => rfl) (p_not (fun _ => rfl)) rfl rfl ?_
                      refine op_w (p_pick_f (fun _ => rfl) (fun _ => rfl)) rfl rfl ?_
                      refine ops_nil ?_
                      refine nx_slots (env' := [(0, _), (1, _), (5, _), (6, _), (144, _)]) [0, 1, 5, 6, 144] rfl (fun _ => rfl) ?_
                      refine nx_next ?_
                      first | refine at_if (fun _ => rfl) (fun hw5 => ?_) (fun hw5 => ?_) | refine at_if_bool (fun _ => rfl) (fun hw5 => ?_) (fun hw5 => ?_)
                      ·
                        exfalso; simp at hw5
                      ·
                        refine at_skip ?_
                        refine nx_block_normal ?_
                        refine nx_next ?_
                        refine at_region ?_
                        refine op_w (p_move (fun _ => rfl)) rfl rfl ?_
                        first | (refine op_w (p_add_nat (n := 1) (fun _ => rfl) (fun _ => rfl) ?_) rfl rfl ?_; (focus (omega))) | (refine op_w (p_add (fun _ => rfl) (fun _ => rfl) (IntWalk.i64_in _ ?_)) rfl rfl ?_; (focus (omega)))
                        refine op_w (p_assign (fun _ => rfl)) rfl rfl ?_
                        refine ops_nil ?_
                        refine nx_slots (env' := [(0, _), (1, _), (5, _), (6, _)]) [0, 1, 5, 6] rfl (fun _ => rfl) ?_
                        refine nx_slots (env' := [(6, _), (0, _), (1, _), (5, _)]) [6, 0, 1, 5] rfl (fun _ => rfl) ?_
                        refine nx_againB (e' := [(6, _)]) (m := _) (H' := _) (by exact ⟨i + 1, rfl, by omega, rfl, rfl⟩) ?hm_3 ?hp_3
                        case hm_3 => omega
                        case hp_3 => repeat (first | exact Sub.refl _ | exact Sub.nil _ | (apply Sub.cons; (focus (repeat (first | exact One.here _ _ | apply One.there)))) | refine Sub.drop _ ?_)
            ·
              exfalso; first | exact hd1 rfl | (cases hd1; done) | contradiction | omega | (simp at hd1; done) | (simp at hd1; omega) | (simp_all; done) | (simp_all; omega)
          ·
            refine at_seq ?_
            refine at_region ?_
            first | refine op_w (p_eql_nat (n := 2) (fun _ => rfl) (fun _ => rfl)) rfl rfl ?_ | refine op_w (p_eql (fun _ => rfl) (fun _ => rfl)) rfl rfl ?_
            refine op_w (p_assign (fun _ => rfl)) rfl rfl ?_
            refine ops_nil ?_
            refine nx_slots (env' := [(0, _), (1, _), (5, _), (6, _), (7, _), (9, _), (11, _), (13, _), (49, _), (72, _)]) [0, 1, 5, 6, 7, 9, 11, 13, 49, 72] rfl (fun _ => rfl) ?_
            refine nx_next ?_
            first | refine at_if (fun _ => rfl) (fun hc2 => ?_) (fun hc2 => ?_) | refine at_if_bool (fun _ => rfl) (fun hc2 => ?_) (fun hc2 => ?_)
            ·
              refine at_seq ?_
              refine at_region ?_
              refine op_w (p_assign (fun _ => rfl)) rfl rfl ?_
              refine ops_nil ?_
              refine nx_slots (env' := [(0, _), (1, _), (5, _), (6, _), (7, _), (9, _), (11, _), (13, _), (14, _)]) [0, 1, 5, 6, 7, 9, 11, 13, 14] rfl (fun _ => rfl) ?_
              refine nx_next ?_
              refine at_block ?_
              refine at_slots (env' := [(13, _), (14, _), (0, _), (1, _), (5, _), (6, _), (7, _), (9, _), (11, _)]) [13, 14, 0, 1, 5, 6, 7, 9, 11] rfl (fun _ => rfl) ?_
              refine at_loopB (e0 := [(13, _), (14, _)]) (H0 := _) (n := _) (fun m e H => ∃ (k : Nat) (s : SnS) (ss sc sca : List Chunk), m = ks.length - k ∧ (k ≤ ks.length ∧ SnOk s ∧ s.its = ks.take k ∧ s.cur.sz ≤ 36 + 143 * k ∧ s.cd.vi.length = 2000 ∧ SnR s sp c a o b ss sc so0 sca sdb) ∧ e = [(13, .bool true), (14, .int .i64 (k : Int))] ∧ H = [ss, sc, sca]) (by exact ⟨0, s0, _, _, _, rfl, ⟨Nat.zero_le _, hS0, by rw [hi0]; rfl, by omega, hl0, hR0⟩, rfl, rfl⟩) (by repeat (first | exact Pull.nil _ | (apply Pull.cons; (focus (repeat (first | exact One.here _ _ | apply One.there)))))) ?_
              rintro _ _ _ ⟨k, s, ss, sc, sca, rfl, ⟨hk, hS, hi, hz, hl, hR⟩, rfl, rfl⟩
              refine at_seq ?_
              refine at_seq ?_
              refine at_region ?_
              refine op_w (p_move (fun _ => rfl)) rfl rfl ?_
              refine op_w (p_move (fun _ => rfl)) rfl rfl ?_
              refine op_w (p_len_slice Tryz.underlying34 (fun _ => rfl)) rfl rfl ?_
              first | refine op_w (p_lss_nat (fun _ => rfl) (fun _ => rfl)) rfl rfl ?_ | refine op_w (p_lss (fun _ => rfl) (fun _ => rfl)) rfl rfl ?_
              refine ops_nil ?_
              refine nx_slots (env' := [(0, _), (1, _), (5, _), (6, _), (7, _), (9, _), (11, _), (13, _), (14, _), (77, _)]) [0, 1, 5, 6, 7, 9, 11, 13, 14, 77] rfl (fun _ => rfl) ?_
              refine nx_next ?_
              first | refine at_if (fun _ => rfl) (fun hlk => ?_) (fun hlk => ?_) | refine at_if_bool (fun _ => rfl) (fun hlk => ?_) (fun hlk => ?_)
              ·
                refine at_skip ?_
                refine nx_next ?_
                refine at_seq ?_
                refine at_block ?_
                refine at_region ?_
                refine op_w (p_move (fun _ => rfl)) rfl rfl ?_
                refine op_w (p_move (fun _ => rfl)) rfl rfl ?_
                refine ops_split_bool (t := 81) (fun _ => rfl) rfl (fun hd2 => ?_) (fun hd2 => ?_)
                ·
                  refine op_wg (fun _ => rfl) (p_move (fun _ => rfl)) rfl rfl ?_
                  refine op_wg (fun _ => rfl) (p_move (fun _ => rfl)) rfl rfl ?_
                  refine op_wg (fun _ => rfl) (p_move (fun _ => rfl)) rfl rfl ?_
                  refine op_wg (fun _ => rfl) (p_move (fun _ => rfl)) rfl rfl ?_
                  first | (refine op_wg (fun _ => rfl) (p_add_nat (n := 1) (fun _ => rfl) (fun _ => rfl) ?_) rfl rfl ?_; (focus (omega))) | (refine op_wg (fun _ => rfl) (p_add (fun _ => rfl) (fun _ => rfl) (IntWalk.i64_in _ ?_)) rfl rfl ?_; (focus (omega)))
                  (refine op_wg (fun _ => rfl) (p_slice_slice Tryz.underlying34 Tryz.sizeOf9 (fun _ => rfl) (fun _ => rfl) (fun _ => rfl) ?_ ?_) rfl rfl ?_; (focus (omega)); (focus (omega)))
                  refine ops_eff (fun _ => rfl) (fits_of rfl) rfl (w_call (vs := [_, _]) (fun _ => rfl) Tryz.call13 (fun _ => rfl) rfl (sn_append_sub s sp c a o b ss sc so0 sca sdb sf _ ((ks.drop k).take 1) Tg zg hS hR (by have := sub_from hf k 1 (by simp; omega) (cl - k); rw [← List.map_drop, ← List.map_take] at this; rw [show k + 1 - k = 1 by omega]; exact this) (by have := (show ((ks.drop k).take 1).length ≤ 1 by rw [List.length_take]; exact Nat.min_le_left _ _); omega) (short_any (fun r hr => hk100 r (List.mem_of_mem_drop (List.mem_of_mem_take hr))))) (by repeat (first | exact Pull.nil _ | (apply Pull.cons; (focus (repeat (first | exact One.here _ _ | apply One.there))))))) ?_ no_pan
                  rintro _ _ ⟨_, ⟨eG, sG, ssG, scG, scaG, rfl, hSG, hgG, hoG, hodG, hlG, hxG, hRG, rfl⟩, rfl⟩
                  have hbdG := items_bound ((ks.drop k).take 1) (fun r hr => hk100 r (List.mem_of_mem_drop (List.mem_of_mem_take hr))) s.cur.h
                  have hnnG := (show ((ks.drop k).take 1).length ≤ 1 by rw [List.length_take]; exact Nat.min_le_left _ _)
                  rw [hl] at hlG hxG
                  have hyG : eG = 0 ∧ sG.its = s.its ++ (ks.drop k).take 1 ∧ sG.cur.sz ≤ s.cur.sz + 143 * ((ks.drop k).take 1).length := by
                    rcases hxG with ⟨h, _⟩ | ⟨_, h1, h2, h3⟩
                    · exfalso; omega
                    · exact ⟨h1, h2, by omega⟩
                  obtain ⟨rfl, hiG, hzG⟩ := hyG
                  have hone : ((ks.drop k).take 1).length = 1 := by rw [List.length_take, List.length_drop]; exact Nat.min_eq_left (by omega)
                  first | refine op_wg (fun _ => rfl) (p_eql_nat (n := 0) (fun _ => rfl) (fun _ => rfl)) rfl rfl ?_ | refine op_wg (fun _ => rfl) (p_eql (fun _ => rfl) (fun _ => rfl)) rfl rfl ?_
                  refine op_w (p_pick_t (fun _ => rfl) (fun _ => rfl)) rfl rfl ?_
                  refine op_w (p_assign (fun _ => rfl)) rfl rfl ?_
                  refine ops_nil ?_
                  refine nx_slots (env' := [(0, _), (1, _), (5, _), (6, _), (7, _), (9, _), (11, _), (13, _), (14, _)]) [0, 1, 5, 6, 7, 9, 11, 13, 14] rfl (fun _ => rfl) ?_
                  refine nx_block_normal ?_
                  refine nx_next ?_
                  refine at_region ?_
                  refine op_w (p_move (fun _ => rfl)) rfl rfl ?_
                  first | (refine op_w (p_add_nat (n := 1) (fun _ => rfl) (fun _ => rfl) ?_) rfl rfl ?_; (focus (omega))) | (refine op_w (p_add (fun _ => rfl) (fun _ => rfl) (IntWalk.i64_in _ ?_)) rfl rfl ?_; (focus (omega)))
                  refine op_w (p_assign (fun _ => rfl)) rfl rfl ?_
                  refine ops_nil ?_
                  refine nx_slots (env' := [(0, _), (1, _), (5, _), (6, _), (7, _), (9, _), (11, _), (13, _), (14, _)]) [0, 1, 5, 6, 7, 9, 11, 13, 14] rfl (fun _ => rfl) ?_
                  refine nx_slots (env' := [(13, _), (14, _), (0, _), (1, _), (5, _), (6, _), (7, _), (9, _), (11, _)]) [13, 14, 0, 1, 5, 6, 7, 9, 11] rfl (fun _ => rfl) ?_
                  refine nx_againB (e' := [(13, _), (14, _)]) (m := _) (H' := _) (by exact ⟨k + 1, sG, _, _, _, rfl, ⟨by omega, hSG, by rw [hiG, hi]; exact take_snoc ks k hlk, by rw [hone] at hzG; omega, by rw [hlG], hRG⟩, rfl, rfl⟩) ?hm_5 ?hp_5
                  case hm_5 => omega
                  case hp_5 => repeat (first | exact Sub.refl _ | exact Sub.nil _ | (apply Sub.cons; (focus (repeat (first | exact One.here _ _ | apply One.there)))) | refine Sub.drop _ ?_)
                ·
                  cases hd2
              ·
                have hits : s.its = ks := by rw [hi]; exact List.take_of_length_le (by omega)
                refine at_exit ?_
                refine nx_thru (by intro h; cases h) ?_
                refine nx_thru (by intro h; cases h) ?_
                refine nx_block_exit ?_
                refine nx_block_normal ?_
                refine nx_next ?_
                refine at_seq ?_
                refine at_region ?_
                refine op_w (p_move (fun _ => rfl)) rfl rfl ?_
                refine op_w (p_move (fun _ => rfl)) rfl rfl ?_
                refine ops_eff (fun _ => rfl) (fits_of rfl) rfl (w_call (vs := [_, _]) (fun _ => rfl) Tryz.call10 (fun _ => rfl) rfl (sn_reopen s a b a b sca sdb pa Tx Tg zx zg hS hab (.inl ⟨rfl, rfl⟩) hR.2.2.1 hR.2.2.2.1) (by repeat (first | exact Pull.nil _ | (apply Pull.cons; (focus (repeat (first | exact One.here _ _ | apply One.there))))))) ?_ no_pan
                rintro _ _ ⟨_, ⟨sp2, c2, o2, ss2, sc2, so2, rfl, hR2, rfl⟩, rfl⟩
                refine op_w (p_move (fun _ => rfl)) rfl rfl ?_
                refine op_w (p_extract (fun _ => rfl) rfl) rfl rfl ?_
                refine op_w (p_extract (fun _ => rfl) rfl) rfl rfl ?_
                refine op_w (p_assign (fun _ => rfl)) rfl rfl ?_
                refine op_w (p_assign (fun _ => rfl)) rfl rfl ?_
                refine ops_nil ?_
                refine nx_slots (env' := [(0, _), (1, _), (5, _), (6, _), (11, _), (13, _), (15, _), (16, _)]) [0, 1, 5, 6, 11, 13, 15, 16] rfl (fun _ => rfl) ?_
                refine nx_next ?_
                refine at_seq ?_
                refine at_region ?_
                refine op_w (p_move (fun _ => rfl)) rfl rfl ?_
                first | refine op_w (p_not_dec (fun _ => rfl)) rfl rfl ?_ | refine op_w (p_not (fun _ => rfl)) rfl rfl ?_
                refine op_w (p_move (fun _ => rfl)) rfl rfl ?_
                first | refine ops_split (t := 123) (fun _ => rfl) rfl (fun hw1 => ?_) (fun hw1 => ?_) | refine ops_split_bool (t := 123) (fun _ => rfl) rfl (fun hw1 => ?_) (fun hw1 => ?_)
                ·
                  exfalso; simp at hw1
                ·
                  refine op_wg (fun _ => rfl) (p_move (fun _ => rfl)) rfl rfl ?_
                  first | refine op_wg (fun _ => rfl) (p_neq_nat (n := 0) (fun _ => rfl) (fun _ => rfl)) rfl rfl ?_ | refine op_wg (fun _ => rfl) (p_neq (fun _ => rfl) (fun _ => rfl)) rfl rfl ?_
                  refine op_w (p_pick_f (fun _ => rfl) (fun _ => rfl)) rfl rfl ?_
                  refine op_w (p_move (fun _ => rfl)) rfl rfl ?_
                  first | refine ops_split (t := 127) (fun _ => rfl) rfl (fun hw2 => ?_) (fun hw2 => ?_) | refine ops_split_bool (t := 127) (fun _ => rfl) rfl (fun hw2 => ?_) (fun hw2 => ?_)
                  ·
                    exfalso; first | exact hw2 rfl | (cases hw2; done) | contradiction | omega | (simp at hw2; done) | (simp at hw2; omega) | (simp_all; done) | (simp_all; omega)
                  ·
                    refine op_wg (fun _ => rfl) (p_move (fun _ => rfl)) rfl rfl ?_
                    first | refine op_wg (fun _ => rfl) (p_eql_nil_nil Tryz.underlying30 (fun _ => rfl) (fun _ => rfl)) rfl rfl ?_ | refine op_wg (fun _ => rfl) (p_eql_ptr_nil Tryz.underlying30 (fun _ => rfl) (fun _ => rfl)) rfl rfl ?_
                    refine op_w (p_pick_f (fun _ => rfl) (fun _ => rfl)) rfl rfl ?_
                    refine op_w (p_move (fun _ => rfl)) rfl rfl ?_
                    refine ops_split_bool (t := 131) (fun _ => rfl) rfl (fun hw3 => ?_) (fun hw3 => ?_)
                    ·
                      cases hw3
                    ·
                      refine op_wg (fun _ => rfl) (p_move (fun _ => rfl)) rfl rfl ?_
                      refine ops_eff (fun _ => rfl) (fits_of rfl) rfl (w_call (vs := [_]) (fun _ => rfl) Tryz.call14 (fun _ => rfl) rfl (sn_items s sp c a o b ss sc so0 sca sdb hS hR) (by repeat (first | exact Pull.nil _ | (apply Pull.cons; (focus (repeat (first | exact One.here _ _ | apply One.there))))))) ?_ no_pan
                      rintro _ _ ⟨_, ⟨sv1, hv1, rfl⟩, rfl⟩
                      rw [hits] at hv1
                      refine op_wg (fun _ => rfl) (p_move (fun _ => rfl)) rfl rfl ?_
                      refine op_e (w_callR (vs := [_, _]) (fun _ => rfl) Tryz.call15 (fun _ => rfl) rfl (same_rows hv1 hf (by omega)) (by repeat (first | exact Pull.nil _ | (apply Pull.cons; (focus (repeat (first | exact One.here _ _ | apply One.there))))))) (fun _ => rfl) rfl rfl ?_
                      rintro _ _ ⟨rfl, rfl⟩
                      first | refine op_wg (fun _ => rfl) (p_not_dec (fun _ => rfl)) rfl rfl ?_ | refine op_wg (fun _ => rfl) (p_not (fun _ => rfl)) rfl rfl ?_
                      refine op_w (p_pick_f (fun _ => rfl) (fun _ => rfl)) rfl rfl ?_
                      refine op_w (p_move (fun _ => rfl)) rfl rfl ?_
                      first | refine ops_split (t := 138) (fun _ => rfl) rfl (fun hw4 => ?_) (fun hw4 => ?_) | refine ops_split_bool (t := 138) (fun _ => rfl) rfl (fun hw4 => ?_) (fun hw4 => ?_)
                      ·
                        exfalso; simp at hw4
                      ·
                        refine op_wg (fun _ => rfl) (p_move (fun _ => rfl)) rfl rfl ?_
                        refine ops_eff (fun _ => rfl) (fits_of rfl) rfl (w_call (vs := [_]) (fun _ => rfl) Tryz.call14 (fun _ => rfl) rfl (sn_items s sp2 c2 a o2 b ss2 sc2 so2 sca sdb hS hR2) (by repeat (first | exact Pull.nil _ | (apply Pull.cons; (focus (repeat (first | exact One.here _ _ | apply One.there))))))) ?_ no_pan
                        rintro _ _ ⟨_, ⟨sv2, hv2, rfl⟩, rfl⟩
                        rw [hits] at hv2
                        refine op_wg (fun _ => rfl) (p_move (fun _ => rfl)) rfl rfl ?_
                        refine op_e (w_callR (vs := [_, _]) (fun _ => rfl) Tryz.call15 (fun _ => rfl) rfl (same_rows hv2 hf (by omega)) (by repeat (first | exact Pull.nil _ | (apply Pull.cons; (focus (repeat (first | exact One.here _ _ | apply One.there))))))) (fun _ => rfl) rfl rfl ?_
                        rintro _ _ ⟨rfl, rfl⟩
                        first | refine op_wg (fun _ => rfl) (p_not_dec (fun _ => rfl)) rfl rfl ?_ | refine op_wg (fun _ => rfl) (p_not (fun _ => rfl)) rfl rfl ?_
                        refine op_w (p_pick_f (fun _ => rfl) (fun _ => rfl)) rfl rfl ?_
                        refine ops_nil ?_
                        refine nx_slots (env' := [(0, _), (1, _), (5, _), (6, _), (144, _)]) [0, 1, 5, 6, 144] rfl (fun _ => rfl) ?_
                        refine nx_next ?_
                        first | refine at_if (fun _ => rfl) (fun hw5 => ?_) (fun hw5 => ?_) | refine at_if_bool (fun _ => rfl) (fun hw5 => ?_) (fun hw5 => ?_)
                        ·
                          exfalso; simp at hw5
                        ·
                          refine at_skip ?_
                          refine nx_block_normal ?_
                          refine nx_next ?_
                          refine at_region ?_
                          refine op_w (p_move (fun _ => rfl)) rfl rfl ?_
                          first | (refine op_w (p_add_nat (n := 1) (fun _ => rfl) (fun _ => rfl) ?_) rfl rfl ?_; (focus (omega))) | (refine op_w (p_add (fun _ => rfl) (fun _ => rfl) (IntWalk.i64_in _ ?_)) rfl rfl ?_; (focus (omega)))
                          refine op_w (p_assign (fun _ => rfl)) rfl rfl ?_
                          refine ops_nil ?_
                          refine nx_slots (env' := [(0, _), (1, _), (5, _), (6, _)]) [0, 1, 5, 6] rfl (fun _ => rfl) ?_
                          refine nx_slots (env' := [(6, _), (0, _), (1, _), (5, _)]) [6, 0, 1, 5] rfl (fun _ => rfl) ?_
                          refine nx_againB (e' := [(6, _)]) (m := _) (H' := _) (by exact ⟨i + 1, rfl, by omega, rfl, rfl⟩) ?hm_6 ?hp_6
                          case hm_6 => omega
                          case hp_6 => repeat (first | exact Sub.refl _ | exact Sub.nil _ | (apply Sub.cons; (focus (repeat (first | exact One.here _ _ | apply One.there)))) | refine Sub.drop _ ?_)
            ·
              refine at_seq ?_
              refine at_region ?_
              first | refine op_w (p_eql_nat (n := 3) (fun _ => rfl) (fun _ => rfl)) rfl rfl ?_ | refine op_w (p_eql (fun _ => rfl) (fun _ => rfl)) rfl rfl ?_
              refine op_w (p_assign (fun _ => rfl)) rfl rfl ?_
              refine ops_nil ?_
              refine nx_slots (env' := [(0, _), (1, _), (5, _), (6, _), (7, _), (9, _), (11, _), (13, _), (91, _)]) [0, 1, 5, 6, 7, 9, 11, 13, 91] rfl (fun _ => rfl) ?_
              refine nx_next ?_
              first | refine at_if (fun _ => rfl) (fun hc3 => ?_) (fun hc3 => ?_) | refine at_if_bool (fun _ => rfl) (fun hc3 => ?_) (fun hc3 => ?_)
              ·
                refine at_region ?_
                refine op_w (p_move (fun _ => rfl)) rfl rfl ?_
                refine op_w (p_move (fun _ => rfl)) rfl rfl ?_
                refine op_w (p_move (fun _ => rfl)) rfl rfl ?_
                (refine op_w (p_slice_slice_from Tryz.underlying34 Tryz.sizeOf9 (fun _ => rfl) (fun _ => rfl) ?_) rfl rfl ?_; (focus (omega)))
                refine ops_eff (fun _ => rfl) (fits_of rfl) rfl (w_call (vs := [_, _]) (fun _ => rfl) Tryz.call13 (fun _ => rfl) rfl (sn_append_sub s0 sp c a o b ss0 sc0 so0 sda1 sdb sf _ ((ks.drop f).take (ks.length - f)) Tg zg hS0 hR0 (by have := sub_from hf f (ks.length - f) (by simp; omega) (cl - f); rw [← List.map_drop, ← List.map_take] at this; exact this) (by have := hldr; omega) (short_any hdr100)) (by repeat (first | exact Pull.nil _ | (apply Pull.cons; (focus (repeat (first | exact One.here _ _ | apply One.there))))))) ?_ no_pan
                rintro _ _ ⟨_, ⟨eD, sD, ssD, scD, scaD, rfl, hSD, hgD, hoD, hodD, hlD, hxD, hRD, rfl⟩, rfl⟩
                have hbdD := items_bound ((ks.drop f).take (ks.length - f)) hdr100 s0.cur.h
                have hnnD := hldr
                rw [hl0] at hlD hxD
                have hyD : eD = 0 ∧ sD.its = s0.its ++ (ks.drop f).take (ks.length - f) ∧ sD.cur.sz ≤ s0.cur.sz + 143 * ((ks.drop f).take (ks.length - f)).length := by
                  rcases hxD with ⟨h, _⟩ | ⟨_, h1, h2, h3⟩
                  · exfalso; omega
                  · exact ⟨h1, h2, by omega⟩
                obtain ⟨rfl, hiD, hzD⟩ := hyD
                first | refine op_w (p_eql_nat (n := 0) (fun _ => rfl) (fun _ => rfl)) rfl rfl ?_ | refine op_w (p_eql (fun _ => rfl) (fun _ => rfl)) rfl rfl ?_
                refine op_w (p_move (fun _ => rfl)) rfl rfl ?_
                first | refine ops_split (t := 99) (fun _ => rfl) rfl (fun hd3 => ?_) (fun hd3 => ?_) | refine ops_split_bool (t := 99) (fun _ => rfl) rfl (fun hd3 => ?_) (fun hd3 => ?_)
                ·
                  refine op_wg (fun _ => rfl) (p_move (fun _ => rfl)) rfl rfl ?_
                  refine op_wg (fun _ => rfl) (p_move (fun _ => rfl)) rfl rfl ?_
                  refine op_wg (fun _ => rfl) (p_move (fun _ => rfl)) rfl rfl ?_
                  (refine op_wg (fun _ => rfl) (p_slice_slice_to Tryz.underlying34 Tryz.sizeOf9 (fun _ => rfl) (fun _ => rfl) ?_) rfl rfl ?_; (focus (omega)))
                  refine ops_eff (fun _ => rfl) (fits_of rfl) rfl (w_call (vs := [_, _]) (fun _ => rfl) Tryz.call11 (fun _ => rfl) rfl (sn_compact sD sp c a o b ssD scD so0 scaD sdb sf _ (ks.take f) pa Tx Tg zx zg hSD hRD (by have := row_take hf f (by simp; omega); rw [← List.map_take] at this; exact this) (by omega) (short_any htk100) (by omega)) (by repeat (first | exact Pull.nil _ | (apply Pull.cons; (focus (repeat (first | exact One.here _ _ | apply One.there))))))) ?_ no_pan
                  rintro _ _ ⟨_, ⟨eE, sE, np, ssE, soE, sdE, rfl, hSE, rfl, hxE⟩, rfl⟩
                  have hbdE := recs_bound (ks.take f) htk100
                  rw [hgD, hg0, show (1 : Nat) + 1 = 2 from rfl, hodD, hod0, hva] at hxE
                  obtain ⟨_, rfl, hgE, hiE, hzE, hoE, hodE, hlE, hRE⟩ := hxE.resolve_left (fun h => by have := h.1; omega)
                  have hzE2 : sE.cur.sz ≤ 36 + 143 * f := by omega
                  first | refine op_wg (fun _ => rfl) (p_eql_nat (n := 0) (fun _ => rfl) (fun _ => rfl)) rfl rfl ?_ | refine op_wg (fun _ => rfl) (p_eql (fun _ => rfl) (fun _ => rfl)) rfl rfl ?_
                  refine op_w (p_pick_t (fun _ => rfl) (fun _ => rfl)) rfl rfl ?_
                  refine op_w (p_move (fun _ => rfl)) rfl rfl ?_
                  first | refine ops_split (t := 107) (fun _ => rfl) rfl (fun hd4 => ?_) (fun hd4 => ?_) | refine ops_split_bool (t := 107) (fun _ => rfl) rfl (fun hd4 => ?_) (fun hd4 => ?_)
                  ·
                    refine op_wg (fun _ => rfl) (p_move (fun _ => rfl)) rfl rfl ?_
                    refine op_wg (fun _ => rfl) (p_move (fun _ => rfl)) rfl rfl ?_
                    refine op_wg (fun _ => rfl) (p_move (fun _ => rfl)) rfl rfl ?_
                    (refine op_wg (fun _ => rfl) (p_slice_slice_from Tryz.underlying34 Tryz.sizeOf9 (fun _ => rfl) (fun _ => rfl) ?_) rfl rfl ?_; (focus (omega)))
                    refine ops_eff (fun _ => rfl) (fits_of rfl) rfl (w_call (vs := [_, _]) (fun _ => rfl) Tryz.call13 (fun _ => rfl) rfl (sn_append_sub sE sp np b c a ssE soE scD sdE scaD sf _ ((ks.drop f).take (ks.length - f)) Tg zg hSE hRE (by have := sub_from hf f (ks.length - f) (by simp; omega) (cl - f); rw [← List.map_drop, ← List.map_take] at this; exact this) (by have := hldr; omega) (short_any hdr100)) (by repeat (first | exact Pull.nil _ | (apply Pull.cons; (focus (repeat (first | exact One.here _ _ | apply One.there))))))) ?_ no_pan
                    rintro _ _ ⟨_, ⟨eF, sF, ssF, scF, scaF, rfl, hSF, hgF, hoF, hodF, hlF, hxF, hRF, rfl⟩, rfl⟩
                    have hbdF := items_bound ((ks.drop f).take (ks.length - f)) hdr100 sE.cur.h
                    have hnnF := hldr
                    rw [hlE] at hlF hxF
                    have hyF : eF = 0 ∧ sF.its = sE.its ++ (ks.drop f).take (ks.length - f) ∧ sF.cur.sz ≤ sE.cur.sz + 143 * ((ks.drop f).take (ks.length - f)).length := by
                      rcases hxF with ⟨h, _⟩ | ⟨_, h1, h2, h3⟩
                      · exfalso; omega
                      · exact ⟨h1, h2, by omega⟩
                    obtain ⟨rfl, hiF, hzF⟩ := hyF
                    have hits : sF.its = ks := by rw [hiF, hiE]; exact hjoin
                    first | refine op_wg (fun _ => rfl) (p_eql_nat (n := 0) (fun _ => rfl) (fun _ => rfl)) rfl rfl ?_ | refine op_wg (fun _ => rfl) (p_eql (fun _ => rfl) (fun _ => rfl)) rfl rfl ?_
                    refine op_w (p_pick_t (fun _ => rfl) (fun _ => rfl)) rfl rfl ?_
                    refine op_w (p_assign (fun _ => rfl)) rfl rfl ?_
                    refine ops_nil ?_
                    refine nx_slots (env' := [(0, _), (1, _), (5, _), (6, _), (7, _), (9, _), (11, _), (13, _)]) [0, 1, 5, 6, 7, 9, 11, 13] rfl (fun _ => rfl) ?_
                    refine nx_block_normal ?_
                    refine nx_next ?_
                    refine at_seq ?_
                    refine at_region ?_
                    refine op_w (p_move (fun _ => rfl)) rfl rfl ?_
                    refine op_w (p_move (fun _ => rfl)) rfl rfl ?_
                    refine ops_eff (fun _ => rfl) (fits_of rfl) rfl (w_call (vs := [_, _]) (fun _ => rfl) Tryz.call10 (fun _ => rfl) rfl (sn_reopen sF a b b a scaF scaD pa Tx Tg zx zg hSF hab (.inr ⟨rfl, rfl⟩) hRF.2.2.1 hRF.2.2.2.1) (by repeat (first | exact Pull.nil _ | (apply Pull.cons; (focus (repeat (first | exact One.here _ _ | apply One.there))))))) ?_ no_pan
                    rintro _ _ ⟨_, ⟨sp2, c2, o2, ss2, sc2, so2, rfl, hR2, rfl⟩, rfl⟩
                    refine op_w (p_move (fun _ => rfl)) rfl rfl ?_
                    refine op_w (p_extract (fun _ => rfl) rfl) rfl rfl ?_
                    refine op_w (p_extract (fun _ => rfl) rfl) rfl rfl ?_
                    refine op_w (p_assign (fun _ => rfl)) rfl rfl ?_
                    refine op_w (p_assign (fun _ => rfl)) rfl rfl ?_
                    refine ops_nil ?_
                    refine nx_slots (env' := [(0, _), (1, _), (5, _), (6, _), (11, _), (13, _), (15, _), (16, _)]) [0, 1, 5, 6, 11, 13, 15, 16] rfl (fun _ => rfl) ?_
                    refine nx_next ?_
                    refine at_seq ?_
                    refine at_region ?_
                    refine op_w (p_move (fun _ => rfl)) rfl rfl ?_
                    first | refine op_w (p_not_dec (fun _ => rfl)) rfl rfl ?_ | refine op_w (p_not (fun _ => rfl)) rfl rfl ?_
                    refine op_w (p_move (fun _ => rfl)) rfl rfl ?_
                    first | refine ops_split (t := 123) (fun _ => rfl) rfl (fun hw1 => ?_) (fun hw1 => ?_) | refine ops_split_bool (t := 123) (fun _ => rfl) rfl (fun hw1 => ?_) (fun hw1 => ?_)
                    ·
                      exfalso; simp at hw1
                    ·
                      refine op_wg (fun _ => rfl) (p_move (fun _ => rfl)) rfl rfl ?_
                      first | refine op_wg (fun _ => rfl) (p_neq_nat (n := 0) (fun _ => rfl) (fun _ => rfl)) rfl rfl ?_ | refine op_wg (fun _ => rfl) (p_neq (fun _ => rfl) (fun _ => rfl)) rfl rfl ?_
                      refine op_w (p_pick_f (fun _ => rfl) (fun _ => rfl)) rfl rfl ?_
                      refine op_w (p_move (fun _ => rfl)) rfl rfl ?_
                      first | refine ops_split (t := 127) (fun _ => rfl) rfl (fun hw2 => ?_) (fun hw2 => ?_) | refine ops_split_bool (t := 127) (fun _ => rfl) rfl (fun hw2 => ?_) (fun hw2 => ?_)
                      ·
                        exfalso; first | exact hw2 rfl | (cases hw2; done) | contradiction | omega | (simp at hw2; done) | (simp at hw2; omega) | (simp_all; done) | (simp_all; omega)
                      ·
                        refine op_wg (fun _ => rfl) (p_move (fun _ => rfl)) rfl rfl ?_
                        first | refine op_wg (fun _ => rfl) (p_eql_nil_nil Tryz.underlying30 (fun _ => rfl) (fun _ => rfl)) rfl rfl ?_ | refine op_wg (fun _ => rfl) (p_eql_ptr_nil Tryz.underlying30 (fun _ => rfl) (fun _ => rfl)) rfl rfl ?_
                        refine op_w (p_pick_f (fun _ => rfl) (fun _ => rfl)) rfl rfl ?_
                        refine op_w (p_move (fun _ => rfl)) rfl rfl ?_
                        refine ops_split_bool (t := 131) (fun _ => rfl) rfl (fun hw3 => ?_) (fun hw3 => ?_)
                        ·
                          cases hw3
                        ·
                          refine op_wg (fun _ => rfl) (p_move (fun _ => rfl)) rfl rfl ?_
                          refine ops_eff (fun _ => rfl) (fits_of rfl) rfl (w_call (vs := [_]) (fun _ => rfl) Tryz.call14 (fun _ => rfl) rfl (sn_items sF sp np b c a ssF scF scD scaF scaD hSF hRF) (by repeat (first | exact Pull.nil _ | (apply Pull.cons; (focus (repeat (first | exact One.here _ _ | apply One.there))))))) ?_ no_pan
                          rintro _ _ ⟨_, ⟨sv1, hv1, rfl⟩, rfl⟩
                          rw [hits] at hv1
                          refine op_wg (fun _ => rfl) (p_move (fun _ => rfl)) rfl rfl ?_
                          refine op_e (w_callR (vs := [_, _]) (fun _ => rfl) Tryz.call15 (fun _ => rfl) rfl (same_rows hv1 hf (by omega)) (by repeat (first | exact Pull.nil _ | (apply Pull.cons; (focus (repeat (first | exact One.here _ _ | apply One.there))))))) (fun _ => rfl) rfl rfl ?_
                          rintro _ _ ⟨rfl, rfl⟩
                          first | refine op_wg (fun _ => rfl) (p_not_dec (fun _ => rfl)) rfl rfl ?_ | refine op_wg (fun _ => rfl) (p_not (fun _ => rfl)) rfl rfl ?_
                          refine op_w (p_pick_f (fun _ => rfl) (fun _ => rfl)) rfl rfl ?_
                          refine op_w (p_move (fun _ => rfl)) rfl rfl ?_
                          first | refine ops_split (t := 138) (fun _ => rfl) rfl (fun hw4 => ?_) (fun hw4 => ?_) | refine ops_split_bool (t := 138) (fun _ => rfl) rfl (fun hw4 => ?_) (fun hw4 => ?_)
                          ·
                            exfalso; simp at hw4
                          ·
                            refine op_wg (fun _ => rfl) (p_move (fun _ => rfl)) rfl rfl ?_
                            refine ops_eff (fun _ => rfl) (fits_of rfl) rfl (w_call (vs := [_]) (fun _ => rfl) Tryz.call14 (fun _ => rfl) rfl (sn_items sF sp2 c2 b o2 a ss2 sc2 so2 scaF scaD hSF hR2) (by repeat (first | exact Pull.nil _ | (apply Pull.cons; (focus (repeat (first | exact One.here _ _ | apply One.there))))))) ?_ no_pan
                            rintro _ _ ⟨_, ⟨sv2, hv2, rfl⟩, rfl⟩
                            rw [hits] at hv2
                            refine op_wg (fun _ => rfl) (p_move (fun _ => rfl)) rfl rfl ?_
                            refine op_e (w_callR (vs := [_, _]) (fun _ => rfl) Tryz.call15 (fun _ => rfl) rfl (same_rows hv2 hf (by omega)) (by repeat (first | exact Pull.nil _ | (apply Pull.cons; (focus (repeat (first | exact One.here _ _ | apply One.there))))))) (fun _ => rfl) rfl rfl ?_
                            rintro _ _ ⟨rfl, rfl⟩
                            first | refine op_wg (fun _ => rfl) (p_not_dec (fun _ => rfl)) rfl rfl ?_ | refine op_wg (fun _ => rfl) (p_not (fun _ => rfl)) rfl rfl ?_
                            refine op_w (p_pick_f (fun _ => rfl) (fun _ => rfl)) rfl rfl ?_
                            refine ops_nil ?_
                            refine nx_slots (env' := [(0, _), (1, _), (5, _), (6, _), (144, _)]) [0, 1, 5, 6, 144] rfl (fun _ => rfl) ?_
                            refine nx_next ?_
                            first | refine at_if (fun _ => rfl) (fun hw5 => ?_) (fun hw5 => ?_) | refine at_if_bool (fun _ => rfl) (fun hw5 => ?_) (fun hw5 => ?_)
                            ·
                              exfalso; simp at hw5
                            ·
                              refine at_skip ?_
                              refine nx_block_normal ?_
                              refine nx_next ?_
                              refine at_region ?_
                              refine op_w (p_move (fun _ => rfl)) rfl rfl ?_
                              first | (refine op_w (p_add_nat (n := 1) (fun _ => rfl) (fun _ => rfl) ?_) rfl rfl ?_; (focus (omega))) | (refine op_w (p_add (fun _ => rfl) (fun _ => rfl) (IntWalk.i64_in _ ?_)) rfl rfl ?_; (focus (omega)))
                              refine op_w (p_assign (fun _ => rfl)) rfl rfl ?_
                              refine ops_nil ?_
                              refine nx_slots (env' := [(0, _), (1, _), (5, _), (6, _)]) [0, 1, 5, 6] rfl (fun _ => rfl) ?_
                              refine nx_slots (env' := [(6, _), (0, _), (1, _), (5, _)]) [6, 0, 1, 5] rfl (fun _ => rfl) ?_
                              refine nx_againB (e' := [(6, _)]) (m := _) (H' := _) (by exact ⟨i + 1, rfl, by omega, rfl, rfl⟩) ?hm_7 ?hp_7
                              case hm_7 => omega
                              case hp_7 => repeat (first | exact Sub.refl _ | exact Sub.nil _ | (apply Sub.cons; (focus (repeat (first | exact One.here _ _ | apply One.there)))) | refine Sub.drop _ ?_)
                  ·
                    exfalso; first | exact hd4 rfl | (cases hd4; done) | contradiction | omega | (simp at hd4; done) | (simp at hd4; omega) | (simp_all; done) | (simp_all; omega)
                ·
                  exfalso; first | exact hd3 rfl | (cases hd3; done) | contradiction | omega | (simp at hd3; done) | (simp at hd3; omega) | (simp_all; done) | (simp_all; omega)
              ·
                exfalso; omega
  ·
    refine at_exit ?_
    refine nx_thru (by intro h; cases h) ?_
    refine nx_thru (by intro h; cases h) ?_
    refine nx_block_exit ?_
    refine nx_next ?_
    refine at_seq ?_
    refine at_region ?_
    refine op_w (p_move (fun _ => rfl)) rfl rfl ?_
    refine op_w (p_assign (fun _ => rfl)) rfl rfl ?_
    refine ops_nil ?_
    refine nx_slots (env' := [(4, _)]) [4] rfl (fun _ => rfl) ?_
    refine nx_next ?_
    refine at_ret ?_
    refine nx_end1 (H' := _) rfl Tryz.results6 (fun _ => rfl) (by exact ⟨rfl, rfl⟩) ?hp_8
    case hp_8 => repeat (first | exact Sub.refl _ | exact Sub.nil _ | (apply Sub.cons; (focus (repeat (first | exact One.here _ _ | apply One.there)))) | refine Sub.drop _ ?_)

end Go.Proofs.YtohgibkpkknfnaaGreatDoor
