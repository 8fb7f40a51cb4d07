/- SnapshotReopens: the law. -/
import Derived.Test.YtohgibkpkknfnaaGreatDoorLr2
namespace Go.Proofs.YtohgibkpkknfnaaGreatDoor
open Go Go.RowKit Gw
set_option linter.unusedVariables false
set_option maxRecDepth 100000
attribute [local irreducible] Gw.At Gw.Nx Gw.Ops
theorem sreopens_law (m : Int) (m1 : -9223372036854775808 ≤ m) (m2 : m ≤ 9223372036854775807) (n : Int) (h1 : -9223372036854775808 ≤ n) (h2 : n ≤ 9223372036854775807) (p : Option Addr) (cap : Nat) (gs : List Value) (M : List Chunk) (hG : ValsIn M (.slice p gs.length cap) gs) (hgs : ∀ v ∈ gs, ∃ ls, StrsIn M v ls) (q : Option Addr) (capq : Nat) (bs : List Value) (hB : ValsIn M (.slice q bs.length capq) bs) (hbs : ∀ y ∈ bs, ∃ b, y = .bool b) (pa : Addr) (Tx Tg : TypeId) (zx zg : Nat × Nat) :
    DoesR Tryz.prog 3 #[.int .i64 m, .int .i64 n, .slice p gs.length cap, .slice q bs.length capq] [[(3, .cells (kTab.map u32v).toArray Tg zg)], [(0, .cells #[.iface 172 (.pointer (some pa))] Tx zx)], M] (.bool true) := by
  have hml : maxLen = 9223372036854775807 := rfl
  have hsz0 : sizeN m = 40 + pickN m 1200 := rfl
  have hsz1 := pickN_lt m 1200 (by decide)
  have hsz2 : sizeN n = 40 + pickN n 1200 := rfl
  have hsz3 := pickN_lt n 1200 (by decide)
  refine spec_enter Tryz.func3 rfl Tryz.ntmps3 rfl ?_
  intro u R
  refine at_slots (env' := [(0, _), (1, _), (2, _), (3, _)]) [0, 1, 2, 3] rfl (fun _ => rfl) ?_
  refine at_seq ?_
  refine at_region ?_
  refine op_w (p_assign (fun _ => rfl)) rfl rfl ?_
  refine ops_nil ?_
  refine nx_slots (env' := [(0, _), (1, _), (2, _), (3, _)]) [0, 1, 2, 3] rfl (fun _ => rfl) ?_
  refine nx_next ?_
  refine at_seq ?_
  refine at_region ?_
  refine op_e (w_callR (vs := []) (fun _ => rfl) Tryz.call7 (fun _ => rfl) rfl (sane24 pa Tx Tg zx zg) (by repeat (first | exact Pull.nil _ | (apply Pull.cons; (focus (repeat (first | exact One.here _ _ | apply One.there))))))) (fun _ => rfl) rfl rfl ?_
  rintro _ _ ⟨rfl, rfl⟩
  refine op_w (p_assign (fun _ => rfl)) rfl rfl ?_
  refine ops_nil ?_
  refine nx_slots (env' := [(0, _), (1, _), (2, _), (3, _), (9, _)]) [0, 1, 2, 3, 9] rfl (fun _ => rfl) ?_
  refine nx_next ?_
  refine at_seq ?_
  refine at_region ?_
  refine op_w (p_move (fun _ => rfl)) rfl rfl ?_
  refine op_e (w_callR (vs := [_]) (fun _ => rfl) Tryz.call9 (fun _ => rfl) rfl (size_law m m1 m2) (by repeat (first | exact Pull.nil _ | (apply Pull.cons; (focus (repeat (first | exact One.here _ _ | apply One.there))))))) (fun _ => rfl) rfl rfl ?_
  rintro _ _ ⟨rfl, rfl⟩
  refine ops_eff (fun _ => rfl) (fits_of rfl) rfl (w_call (vs := [_]) (fun _ => rfl) Tryz.call8 (fun _ => rfl) rfl (new_state (sizeN m) (by omega) (by omega)) (by repeat (first | exact Pull.nil _ | (apply Pull.cons; (focus (repeat (first | exact One.here _ _ | apply One.there))))))) ?_ no_pan
  rintro _ _ ⟨_, ⟨a, sda, rfl, rfl, hRa⟩, rfl⟩
  have hDa := JD.new (sizeN m) (by omega)
  have hva := disk_new_len (sizeN m)
  obtain ⟨csa, hca⟩ := hRa.cell
  refine op_w (p_move (fun _ => rfl)) rfl rfl ?_
  refine op_w (p_extract (fun _ => rfl) rfl) rfl rfl ?_
  refine op_w (p_extract (fun _ => rfl) rfl) rfl rfl ?_
  refine op_w (p_assign (fun _ => rfl)) rfl rfl ?_
  refine op_w (p_assign (fun _ => rfl)) rfl rfl ?_
  refine ops_nil ?_
  refine nx_slots (env' := [(1, _), (2, _), (3, _), (9, _), (10, _)]) [1, 2, 3, 9, 10] rfl (fun _ => rfl) ?_
  refine nx_next ?_
  refine at_seq ?_
  refine at_region ?_
  refine op_w (p_move (fun _ => rfl)) rfl rfl ?_
  refine op_e (w_callR (vs := [_]) (fun _ => rfl) Tryz.call9 (fun _ => rfl) rfl (size_law n h1 h2) (by repeat (first | exact Pull.nil _ | (apply Pull.cons; (focus (repeat (first | exact One.here _ _ | apply One.there))))))) (fun _ => rfl) rfl rfl ?_
  rintro _ _ ⟨rfl, rfl⟩
  refine ops_eff (fun _ => rfl) (fits_of rfl) rfl (w_call (vs := [_]) (fun _ => rfl) Tryz.call8 (fun _ => rfl) rfl (new_state (sizeN n) (by omega) (by omega)) (by repeat (first | exact Pull.nil _ | (apply Pull.cons; (focus (repeat (first | exact One.here _ _ | apply One.there))))))) ?_ no_pan
  rintro _ _ ⟨_, ⟨b, sdb, rfl, rfl, hRb⟩, rfl⟩
  have hDb := JD.new (sizeN n) (by omega)
  obtain ⟨csb, hcb⟩ := hRb.cell
  refine op_w (p_move (fun _ => rfl)) rfl rfl ?_
  refine op_w (p_extract (fun _ => rfl) rfl) rfl rfl ?_
  refine op_w (p_extract (fun _ => rfl) rfl) rfl rfl ?_
  refine op_w (p_assign (fun _ => rfl)) rfl rfl ?_
  refine op_w (p_assign (fun _ => rfl)) rfl rfl ?_
  refine ops_nil ?_
  refine nx_slots (env' := [(2, _), (3, _), (9, _), (10, _), (12, _)]) [2, 3, 9, 10, 12] rfl (fun _ => rfl) ?_
  refine nx_next ?_
  refine at_seq ?_
  refine at_ne (s1 := sda) (s2 := sdb) (by repeat (first | exact One.here _ _ | apply One.there)) (by repeat (first | exact One.here _ _ | apply One.there)) hca hcb (fun hab => ?_)
  refine at_region ?_
  refine op_w (p_move (fun _ => rfl)) rfl rfl ?_
  refine op_w (p_move (fun _ => rfl)) rfl rfl ?_
  refine ops_eff (fun _ => rfl) (fits_of rfl) rfl (w_call (vs := [_, _]) (fun _ => rfl) Tryz.call10 (fun _ => rfl) rfl (sn_new a b _ _ sda sdb pa Tx Tg zx zg hab hDa hDb hRa hRb (by omega)) (by repeat (first | exact Pull.nil _ | (apply Pull.cons; (focus (repeat (first | exact One.here _ _ | apply One.there))))))) ?_ no_pan
  rintro _ _ ⟨_, ⟨s0, sp, c0, o0, ss0, sc0, so0, sda1, rfl, hS0, hg0, hi0, hz0, hl0, hod0, hR0, rfl⟩, rfl⟩
  refine op_w (p_move (fun _ => rfl)) rfl rfl ?_
  refine op_w (p_extract (fun _ => rfl) rfl) rfl rfl ?_
  refine op_w (p_extract (fun _ => rfl) rfl) rfl rfl ?_
  refine op_w (p_assign (fun _ => rfl)) rfl rfl ?_
  refine op_w (p_assign (fun _ => rfl)) rfl rfl ?_
  refine ops_nil ?_
  refine nx_slots (env' := [(2, _), (3, _), (9, _), (10, _), (12, _), (14, _), (15, _)]) [2, 3, 9, 10, 12, 14, 15] rfl (fun _ => rfl) ?_
  refine nx_next ?_
  refine at_seq ?_
  refine at_seq ?_
  refine at_region ?_
  refine op_w (p_move (fun _ => rfl)) rfl rfl ?_
  first | refine op_w (p_neq_nat (n := 0) (fun _ => rfl) (fun _ => rfl)) rfl rfl ?_ | refine op_w (p_neq (fun _ => rfl) (fun _ => rfl)) rfl rfl ?_
  refine op_w (p_move (fun _ => rfl)) rfl rfl ?_
  first | refine ops_split (t := 42) (fun _ => rfl) rfl (fun hgg1 => ?_) (fun hgg1 => ?_) | refine ops_split_bool (t := 42) (fun _ => rfl) rfl (fun hgg1 => ?_) (fun hgg1 => ?_)
  ·
    exfalso; first | exact hgg1 rfl | (cases hgg1; done) | contradiction | omega | (simp at hgg1; done) | (simp at hgg1; omega) | (simp_all; done) | (simp_all; omega)
  ·
    refine op_wg (fun _ => rfl) (p_move (fun _ => rfl)) rfl rfl ?_
    first | refine op_wg (fun _ => rfl) (p_eql_nil_nil Tryz.underlying30 (fun _ => rfl) (fun _ => rfl)) rfl rfl ?_ | refine op_wg (fun _ => rfl) (p_eql_ptr_nil Tryz.underlying30 (fun _ => rfl) (fun _ => rfl)) rfl rfl ?_
    refine op_w (p_pick_f (fun _ => rfl) (fun _ => rfl)) rfl rfl ?_
    refine ops_nil ?_
    refine nx_slots (env' := [(2, _), (3, _), (9, _), (10, _), (12, _), (14, _), (45, _)]) [2, 3, 9, 10, 12, 14, 45] rfl (fun _ => rfl) ?_
    refine nx_next ?_
    refine at_if_bool (fun _ => rfl) (fun hgg2 => ?_) (fun hgg2 => ?_)
    ·
      exfalso; first | exact hgg2 rfl | (cases hgg2; done) | contradiction | omega | (simp at hgg2; done) | (simp at hgg2; omega) | (simp_all; done) | (simp_all; omega)
    ·
      refine at_skip ?_
      refine nx_next ?_
      refine at_seq ?_
      refine at_seq ?_
      refine at_region ?_
      refine op_w (p_assign (fun _ => rfl)) rfl rfl ?_
      refine ops_nil ?_
      refine nx_slots (env' := [(2, _), (3, _), (9, _), (10, _), (12, _), (14, _), (16, _)]) [2, 3, 9, 10, 12, 14, 16] rfl (fun _ => rfl) ?_
      refine nx_next ?_
      refine at_block ?_
      refine at_slots (env' := [(16, _), (2, _), (3, _), (9, _), (10, _), (12, _), (14, _)]) [16, 2, 3, 9, 10, 12, 14] rfl (fun _ => rfl) ?_
      refine at_loopB (e0 := [(16, _)]) (H0 := _) (n := _) (fun m e H => ∃ (i : Nat) (s : SnS) (c ca o oa : Nat) (ss sc so sca soa : List Chunk), m = 20 - i ∧ (i ≤ 20 ∧ SnOk s ∧ s.gen ≤ 1 + i ∧ ((ca = a ∧ oa = b) ∨ (ca = b ∧ oa = a)) ∧ SnR s sp c ca o oa ss sc so sca soa) ∧ e = [(16, .int .i64 (i : Int))] ∧ H = [ss, sc, so, sca, soa]) (by exact ⟨0, s0, c0, a, o0, b, _, _, _, _, _, rfl, ⟨Nat.zero_le _, hS0, by omega, .inl ⟨rfl, rfl⟩, hR0⟩, rfl, rfl⟩) (by repeat (first | exact Pull.nil _ | (apply Pull.cons; (focus (repeat (first | exact One.here _ _ | apply One.there)))))) ?_
      rintro _ _ _ ⟨i, s, c, ca, o, oa, ss, sc, so, sca, soa, rfl, ⟨hi, hS, hg, hor, hR⟩, rfl, rfl⟩
      refine at_seq ?_
      refine at_seq ?_
      refine at_region ?_
      refine op_w (p_move (fun _ => rfl)) rfl rfl ?_
      refine op_w (p_move (fun _ => rfl)) rfl rfl ?_
      refine op_w (p_len_slice Tryz.underlying22 (fun _ => rfl)) rfl rfl ?_
      first | refine op_w (p_lss_nat (fun _ => rfl) (fun _ => rfl)) rfl rfl ?_ | refine op_w (p_lss (fun _ => rfl) (fun _ => rfl)) rfl rfl ?_
      refine op_w (p_move (fun _ => rfl)) rfl rfl ?_
      first | refine ops_split (t := 50) (fun _ => rfl) rfl (fun hlt => ?_) (fun hlt => ?_) | refine ops_split_bool (t := 50) (fun _ => rfl) rfl (fun hlt => ?_) (fun hlt => ?_)
      ·
        refine op_wg (fun _ => rfl) (p_move (fun _ => rfl)) rfl rfl ?_
        first | refine op_wg (fun _ => rfl) (p_lss_nat (n := 20) (fun _ => rfl) (fun _ => rfl)) rfl rfl ?_ | refine op_wg (fun _ => rfl) (p_lss (fun _ => rfl) (fun _ => rfl)) rfl rfl ?_
        refine op_w (p_pick_t (fun _ => rfl) (fun _ => rfl)) rfl rfl ?_
        refine ops_nil ?_
        refine nx_slots (env' := [(2, _), (3, _), (9, _), (10, _), (12, _), (14, _), (16, _), (53, _)]) [2, 3, 9, 10, 12, 14, 16, 53] rfl (fun _ => rfl) ?_
        refine nx_next ?_
        first | refine at_if (fun _ => rfl) (fun hl20 => ?_) (fun hl20 => ?_) | refine at_if_bool (fun _ => rfl) (fun hl20 => ?_) (fun hl20 => ?_)
        ·
          refine at_skip ?_
          refine nx_next ?_
          refine at_seq ?_
          refine at_block ?_
          refine at_seq ?_
          refine at_region ?_
          refine op_w (p_move (fun _ => rfl)) rfl rfl ?_
          refine op_w (p_move (fun _ => rfl)) rfl rfl ?_
          refine op_w (p_len_slice Tryz.underlying23 (fun _ => rfl)) rfl rfl ?_
          first | refine op_w (p_lss_nat (fun _ => rfl) (fun _ => rfl)) rfl rfl ?_ | refine op_w (p_lss (fun _ => rfl) (fun _ => rfl)) rfl rfl ?_
          refine op_w (p_move (fun _ => rfl)) rfl rfl ?_
          first | refine ops_split (t := 60) (fun _ => rfl) rfl (fun hrl => ?_) (fun hrl => ?_) | refine ops_split_bool (t := 60) (fun _ => rfl) rfl (fun hrl => ?_) (fun hrl => ?_)
          ·
            obtain ⟨gb, ob, curb, Tb, zb, rfl, hmb, hinb⟩ : ∃ g o cur T z, q = some ⟨g, o, none⟩ ∧ (g, Obj.cells cur T z) ∈ M ∧ CellsIn cur o bs := by
              rcases hB with ⟨_, _, _, rfl⟩ | ⟨g, o, cap, cur, T, z, he, hm, hin, _⟩
              · simp at hrl
              · injection he with e1 e2 e3; exact ⟨g, o, cur, T, z, e1, hm, hin⟩
            obtain ⟨y, hy⟩ : ∃ y, bs[i]? = some y := ⟨_, List.getElem?_eq_getElem hrl⟩
            obtain ⟨bb, rfl⟩ := hbs y (List.mem_of_getElem? hy)
            have hcb2 := hinb.get i _ hy
            refine op_wg (fun _ => rfl) (p_move (fun _ => rfl)) rfl rfl ?_
            refine op_wg (fun _ => rfl) (p_move (fun _ => rfl)) rfl rfl ?_
            first | (refine op_wg (fun _ => rfl) (p_indexAddr_nat0 Tryz.underlying23 Tryz.sizeOf4 (fun _ => rfl) (fun _ => rfl) ?_) rfl rfl ?_; (focus (omega))) | (refine op_wg (fun _ => rfl) (p_indexAddr_nat1 Tryz.underlying23 Tryz.sizeOf4 (fun _ => rfl) (fun _ => rfl) ?_) rfl rfl ?_; (focus (omega)))
            refine op_rmg (fun _ => rfl) (cs := [(gb, .cells curb Tb zb)]) (by simp [hmb]) (p_load Tryz.isAgg4 (fun _ => rfl) (by first | exact hcb2 | (rw [Nat.mul_one]; exact hcb2))) rfl rfl ?_
            refine op_w (p_pick_t (fun _ => rfl) (fun _ => rfl)) rfl rfl ?_
            refine ops_nil ?_
            refine nx_slots (env' := [(2, _), (3, _), (9, _), (10, _), (12, _), (14, _), (16, _), (65, _)]) [2, 3, 9, 10, 12, 14, 16, 65] rfl (fun _ => rfl) ?_
            refine nx_next ?_
            refine at_if_bool (fun _ => rfl) (fun hrep => ?_) (fun hrep => ?_)
            ·
              obtain ⟨g, o9, cur, T, z, rfl, hm, hin⟩ : ∃ g o cur T z, p = some ⟨g, o, none⟩ ∧ (g, Obj.cells cur T z) ∈ M ∧ CellsIn cur o gs := by
                rcases hG with ⟨_, _, _, rfl⟩ | ⟨g, o, cap, cur, T, z, he, hm, hin, _⟩
                · simp at hlt
                · injection he with e1 e2 e3; exact ⟨g, o, cur, T, z, e1, hm, hin⟩
              obtain ⟨x, hx⟩ : ∃ x, gs[i]? = some x := ⟨_, List.getElem?_eq_getElem hlt⟩
              obtain ⟨ls, hls⟩ := hgs x (List.mem_of_getElem? hx)
              have hcell := hin.get i x hx
              obtain ⟨ks, hks⟩ : ∃ ks, ks = fewL ls := ⟨_, rfl⟩
              have hk6 : ks.length ≤ 6 := by rw [hks]; exact few_len ls
              have hkb : ks.any isBig = false := by rw [hks]; exact few_big ls
              refine at_region ?_
              refine op_w (p_move (fun _ => rfl)) rfl rfl ?_
              refine op_w (p_move (fun _ => rfl)) rfl rfl ?_
              refine op_w (p_move (fun _ => rfl)) rfl rfl ?_
              first | (refine op_w (p_indexAddr_nat0 Tryz.underlying22 Tryz.sizeOf34 (fun _ => rfl) (fun _ => rfl) ?_) rfl rfl ?_; (focus (omega))) | (refine op_w (p_indexAddr_nat1 Tryz.underlying22 Tryz.sizeOf34 (fun _ => rfl) (fun _ => rfl) ?_) rfl rfl ?_; (focus (omega)))
              refine op_rm (cs := [(g, .cells cur T z)]) (by simp [hm]) (p_load Tryz.isAgg34 (fun _ => rfl) (by first | exact hcell | (rw [Nat.mul_one]; exact hcell))) rfl rfl ?_
              refine ops_eff (fun _ => rfl) (fits_of rfl) rfl (w_call (vs := [_]) (fun _ => rfl) Tryz.call12 (fun _ => rfl) rfl (few_mem hls) (by repeat (first | exact Pull.nil _ | (apply Pull.cons; (focus (repeat (first | exact One.here _ _ | apply One.there))))))) ?_ no_pan
              rintro _ _ ⟨_, ⟨sf, hf, rfl⟩, rfl⟩
              rw [← hks] at hf
              refine ops_eff (fun _ => rfl) (fits_of rfl) rfl (w_call (vs := [_, _]) (fun _ => rfl) Tryz.call11 (fun _ => rfl) rfl (sn_compact s sp c ca o oa ss sc so sca soa sf _ ks pa Tx Tg zx zg hS hR hf (by omega) hkb (by omega)) (by repeat (first | exact Pull.nil _ | (apply Pull.cons; (focus (repeat (first | exact One.here _ _ | apply One.there))))))) ?_ no_pan
              rintro _ _ ⟨_, ⟨e1, s1, np, ss1, so1, soa1, rfl, hS1, rfl, hx1⟩, rfl⟩
              rcases hx1 with ⟨_, _, hg1, _, _, _, _, hRfull⟩ | ⟨_, _, hg1, _, _, _, _, _, hRok⟩
              ·
                refine ops_nil ?_
                refine nx_slots (env' := [(2, _), (3, _), (9, _), (10, _), (12, _), (14, _), (16, _)]) [2, 3, 9, 10, 12, 14, 16] rfl (fun _ => rfl) ?_
                refine nx_block_normal ?_
                refine nx_next ?_
                refine at_region ?_
                refine op_w (p_move (fun _ => rfl)) rfl rfl ?_
                first | (refine op_w (p_add_nat (n := 1) (fun _ => rfl) (fun _ => rfl) ?_) rfl rfl ?_; (focus (omega))) | (refine op_w (p_add (fun _ => rfl) (fun _ => rfl) (IntWalk.i64_in _ ?_)) rfl rfl ?_; (focus (omega)))
                refine op_w (p_assign (fun _ => rfl)) rfl rfl ?_
                refine ops_nil ?_
                refine nx_slots (env' := [(2, _), (3, _), (9, _), (10, _), (12, _), (14, _), (16, _)]) [2, 3, 9, 10, 12, 14, 16] rfl (fun _ => rfl) ?_
                refine nx_slots (env' := [(16, _), (2, _), (3, _), (9, _), (10, _), (12, _), (14, _)]) [16, 2, 3, 9, 10, 12, 14] rfl (fun _ => rfl) ?_
                refine nx_againB (e' := [(16, _)]) (m := _) (H' := _) (by first | exact ⟨i + 1, s1, c, ca, o, oa, ssA, scA, so, scaA, soa, rfl, ⟨by omega, hS1, by omega, hor, hR1⟩, rfl, rfl⟩ | exact ⟨i + 1, s1, c, ca, np, oa, ss1, sc, so1, sca, soa1, rfl, ⟨by omega, hS1, by omega, hor, hRfull⟩, rfl, rfl⟩ | exact ⟨i + 1, s1, np, oa, c, ca, ss1, so1, sc, soa1, sca, rfl, ⟨by omega, hS1, by omega, hor.elim (fun h => .inr ⟨h.2, h.1⟩) (fun h => .inl ⟨h.2, h.1⟩), hRok⟩, rfl, rfl⟩) ?hm_2 ?hp_2
                case hm_2 => omega
                case hp_2 => repeat (first | exact Sub.refl _ | exact Sub.nil _ | (apply Sub.cons; (focus (repeat (first | exact One.here _ _ | apply One.there)))) | refine Sub.drop _ ?_)
              ·
                refine ops_nil ?_
                refine nx_slots (env' := [(2, _), (3, _), (9, _), (10, _), (12, _), (14, _), (16, _)]) [2, 3, 9, 10, 12, 14, 16] rfl (fun _ => rfl) ?_
                refine nx_block_normal ?_
                refine nx_next ?_
                refine at_region ?_
                refine op_w (p_move (fun _ => rfl)) rfl rfl ?_
                first | (refine op_w (p_add_nat (n := 1) (fun _ => rfl) (fun _ => rfl) ?_) rfl rfl ?_; (focus (omega))) | (refine op_w (p_add (fun _ => rfl) (fun _ => rfl) (IntWalk.i64_in _ ?_)) rfl rfl ?_; (focus (omega)))
                refine op_w (p_assign (fun _ => rfl)) rfl rfl ?_
                refine ops_nil ?_
                refine nx_slots (env' := [(2, _), (3, _), (9, _), (10, _), (12, _), (14, _), (16, _)]) [2, 3, 9, 10, 12, 14, 16] rfl (fun _ => rfl) ?_
                refine nx_slots (env' := [(16, _), (2, _), (3, _), (9, _), (10, _), (12, _), (14, _)]) [16, 2, 3, 9, 10, 12, 14] rfl (fun _ => rfl) ?_
                refine nx_againB (e' := [(16, _)]) (m := _) (H' := _) (by first | exact ⟨i + 1, s1, c, ca, o, oa, ssA, scA, so, scaA, soa, rfl, ⟨by omega, hS1, by omega, hor, hR1⟩, rfl, rfl⟩ | exact ⟨i + 1, s1, c, ca, np, oa, ss1, sc, so1, sca, soa1, rfl, ⟨by omega, hS1, by omega, hor, hRfull⟩, rfl, rfl⟩ | exact ⟨i + 1, s1, np, oa, c, ca, ss1, so1, sc, soa1, sca, rfl, ⟨by omega, hS1, by omega, hor.elim (fun h => .inr ⟨h.2, h.1⟩) (fun h => .inl ⟨h.2, h.1⟩), hRok⟩, rfl, rfl⟩) ?hm_3 ?hp_3
                case hm_3 => omega
                case hp_3 => repeat (first | exact Sub.refl _ | exact Sub.nil _ | (apply Sub.cons; (focus (repeat (first | exact One.here _ _ | apply One.there)))) | refine Sub.drop _ ?_)
            ·
              obtain ⟨g, o9, cur, T, z, rfl, hm, hin⟩ : ∃ g o cur T z, p = some ⟨g, o, none⟩ ∧ (g, Obj.cells cur T z) ∈ M ∧ CellsIn cur o gs := by
                rcases hG with ⟨_, _, _, rfl⟩ | ⟨g, o, cap, cur, T, z, he, hm, hin, _⟩
                · simp at hlt
                · injection he with e1 e2 e3; exact ⟨g, o, cur, T, z, e1, hm, hin⟩
              obtain ⟨x, hx⟩ : ∃ x, gs[i]? = some x := ⟨_, List.getElem?_eq_getElem hlt⟩
              obtain ⟨ls, hls⟩ := hgs x (List.mem_of_getElem? hx)
              have hcell := hin.get i x hx
              obtain ⟨ks, hks⟩ : ∃ ks, ks = fewL ls := ⟨_, rfl⟩
              have hk6 : ks.length ≤ 6 := by rw [hks]; exact few_len ls
              have hkb : ks.any isBig = false := by rw [hks]; exact few_big ls
              refine at_region ?_
              refine op_w (p_move (fun _ => rfl)) rfl rfl ?_
              refine op_w (p_move (fun _ => rfl)) rfl rfl ?_
              refine op_w (p_move (fun _ => rfl)) rfl rfl ?_
              first | (refine op_w (p_indexAddr_nat0 Tryz.underlying22 Tryz.sizeOf34 (fun _ => rfl) (fun _ => rfl) ?_) rfl rfl ?_; (focus (omega))) | (refine op_w (p_indexAddr_nat1 Tryz.underlying22 Tryz.sizeOf34 (fun _ => rfl) (fun _ => rfl) ?_) rfl rfl ?_; (focus (omega)))
              refine op_rm (cs := [(g, .cells cur T z)]) (by simp [hm]) (p_load Tryz.isAgg34 (fun _ => rfl) (by first | exact hcell | (rw [Nat.mul_one]; exact hcell))) rfl rfl ?_
              refine ops_eff (fun _ => rfl) (fits_of rfl) rfl (w_call (vs := [_]) (fun _ => rfl) Tryz.call12 (fun _ => rfl) rfl (few_mem hls) (by repeat (first | exact Pull.nil _ | (apply Pull.cons; (focus (repeat (first | exact One.here _ _ | apply One.there))))))) ?_ no_pan
              rintro _ _ ⟨_, ⟨sf, hf, rfl⟩, rfl⟩
              rw [← hks] at hf
              refine ops_eff (fun _ => rfl) (fits_of rfl) rfl (w_call (vs := [_, _]) (fun _ => rfl) Tryz.call13 (fun _ => rfl) rfl (sn_append s sp c ca o oa ss sc so sca soa sf _ ks Tg zg hS hR hf (by omega) hkb) (by repeat (first | exact Pull.nil _ | (apply Pull.cons; (focus (repeat (first | exact One.here _ _ | apply One.there))))))) ?_ no_pan
              rintro _ _ ⟨_, ⟨e1, s1, ssA, scA, scaA, rfl, hS1, hg1, ho1, hod1, hl1, hx1, hR1, rfl⟩, rfl⟩
              refine ops_nil ?_
              refine nx_slots (env' := [(2, _), (3, _), (9, _), (10, _), (12, _), (14, _), (16, _)]) [2, 3, 9, 10, 12, 14, 16] rfl (fun _ => rfl) ?_
              refine nx_block_normal ?_
              refine nx_next ?_
              refine at_region ?_
              refine op_w (p_move (fun _ => rfl)) rfl rfl ?_
              first | (refine op_w (p_add_nat (n := 1) (fun _ => rfl) (fun _ => rfl) ?_) rfl rfl ?_; (focus (omega))) | (refine op_w (p_add (fun _ => rfl) (fun _ => rfl) (IntWalk.i64_in _ ?_)) rfl rfl ?_; (focus (omega)))
              refine op_w (p_assign (fun _ => rfl)) rfl rfl ?_
              refine ops_nil ?_
              refine nx_slots (env' := [(2, _), (3, _), (9, _), (10, _), (12, _), (14, _), (16, _)]) [2, 3, 9, 10, 12, 14, 16] rfl (fun _ => rfl) ?_
              refine nx_slots (env' := [(16, _), (2, _), (3, _), (9, _), (10, _), (12, _), (14, _)]) [16, 2, 3, 9, 10, 12, 14] rfl (fun _ => rfl) ?_
              refine nx_againB (e' := [(16, _)]) (m := _) (H' := _) (by first | exact ⟨i + 1, s1, c, ca, o, oa, ssA, scA, so, scaA, soa, rfl, ⟨by omega, hS1, by omega, hor, hR1⟩, rfl, rfl⟩ | exact ⟨i + 1, s1, c, ca, np, oa, ss1, sc, so1, sca, soa1, rfl, ⟨by omega, hS1, by omega, hor, hRfull⟩, rfl, rfl⟩ | exact ⟨i + 1, s1, np, oa, c, ca, ss1, so1, sc, soa1, sca, rfl, ⟨by omega, hS1, by omega, hor.elim (fun h => .inr ⟨h.2, h.1⟩) (fun h => .inl ⟨h.2, h.1⟩), hRok⟩, rfl, rfl⟩) ?hm_4 ?hp_4
              case hm_4 => omega
              case hp_4 => repeat (first | exact Sub.refl _ | exact Sub.nil _ | (apply Sub.cons; (focus (repeat (first | exact One.here _ _ | apply One.there)))) | refine Sub.drop _ ?_)
          ·
            refine op_skip (fun _ => rfl) rfl ?_
            refine op_skip (fun _ => rfl) rfl ?_
            refine op_skip (fun _ => rfl) rfl ?_
            refine op_skip (fun _ => rfl) rfl ?_
            refine op_w (p_pick_f (fun _ => rfl) (fun _ => rfl)) rfl rfl ?_
            refine ops_nil ?_
            refine nx_slots (env' := [(2, _), (3, _), (9, _), (10, _), (12, _), (14, _), (16, _), (65, _)]) [2, 3, 9, 10, 12, 14, 16, 65] rfl (fun _ => rfl) ?_
            refine nx_next ?_
            refine at_else (fun _ => rfl) ?_
            obtain ⟨g, o9, cur, T, z, rfl, hm, hin⟩ : ∃ g o cur T z, p = some ⟨g, o, none⟩ ∧ (g, Obj.cells cur T z) ∈ M ∧ CellsIn cur o gs := by
              rcases hG with ⟨_, _, _, rfl⟩ | ⟨g, o, cap, cur, T, z, he, hm, hin, _⟩
              · simp at hlt
              · injection he with e1 e2 e3; exact ⟨g, o, cur, T, z, e1, hm, hin⟩
            obtain ⟨x, hx⟩ : ∃ x, gs[i]? = some x := ⟨_, List.getElem?_eq_getElem hlt⟩
            obtain ⟨ls, hls⟩ := hgs x (List.mem_of_getElem? hx)
            have hcell := hin.get i x hx
            obtain ⟨ks, hks⟩ : ∃ ks, ks = fewL ls := ⟨_, rfl⟩
            have hk6 : ks.length ≤ 6 := by rw [hks]; exact few_len ls
            have hkb : ks.any isBig = false := by rw [hks]; exact few_big ls
            refine at_region ?_
            refine op_w (p_move (fun _ => rfl)) rfl rfl ?_
            refine op_w (p_move (fun _ => rfl)) rfl rfl ?_
            refine op_w (p_move (fun _ => rfl)) rfl rfl ?_
            first | (refine op_w (p_indexAddr_nat0 Tryz.underlying22 Tryz.sizeOf34 (fun _ => rfl) (fun _ => rfl) ?_) rfl rfl ?_; (focus (omega))) | (refine op_w (p_indexAddr_nat1 Tryz.underlying22 Tryz.sizeOf34 (fun _ => rfl) (fun _ => rfl) ?_) rfl rfl ?_; (focus (omega)))
            refine op_rm (cs := [(g, .cells cur T z)]) (by simp [hm]) (p_load Tryz.isAgg34 (fun _ => rfl) (by first | exact hcell | (rw [Nat.mul_one]; exact hcell))) rfl rfl ?_
            refine ops_eff (fun _ => rfl) (fits_of rfl) rfl (w_call (vs := [_]) (fun _ => rfl) Tryz.call12 (fun _ => rfl) rfl (few_mem hls) (by repeat (first | exact Pull.nil _ | (apply Pull.cons; (focus (repeat (first | exact One.here _ _ | apply One.there))))))) ?_ no_pan
            rintro _ _ ⟨_, ⟨sf, hf, rfl⟩, rfl⟩
            rw [← hks] at hf
            refine ops_eff (fun _ => rfl) (fits_of rfl) rfl (w_call (vs := [_, _]) (fun _ => rfl) Tryz.call13 (fun _ => rfl) rfl (sn_append s sp c ca o oa ss sc so sca soa sf _ ks Tg zg hS hR hf (by omega) hkb) (by repeat (first | exact Pull.nil _ | (apply Pull.cons; (focus (repeat (first | exact One.here _ _ | apply One.there))))))) ?_ no_pan
            rintro _ _ ⟨_, ⟨e1, s1, ssA, scA, scaA, rfl, hS1, hg1, ho1, hod1, hl1, hx1, hR1, rfl⟩, rfl⟩
            refine ops_nil ?_
            refine nx_slots (env' := [(2, _), (3, _), (9, _), (10, _), (12, _), (14, _), (16, _)]) [2, 3, 9, 10, 12, 14, 16] rfl (fun _ => rfl) ?_
            refine nx_block_normal ?_
            refine nx_next ?_
            refine at_region ?_
            refine op_w (p_move (fun _ => rfl)) rfl rfl ?_
            first | (refine op_w (p_add_nat (n := 1) (fun _ => rfl) (fun _ => rfl) ?_) rfl rfl ?_; (focus (omega))) | (refine op_w (p_add (fun _ => rfl) (fun _ => rfl) (IntWalk.i64_in _ ?_)) rfl rfl ?_; (focus (omega)))
            refine op_w (p_assign (fun _ => rfl)) rfl rfl ?_
            refine ops_nil ?_
            refine nx_slots (env' := [(2, _), (3, _), (9, _), (10, _), (12, _), (14, _), (16, _)]) [2, 3, 9, 10, 12, 14, 16] rfl (fun _ => rfl) ?_
            refine nx_slots (env' := [(16, _), (2, _), (3, _), (9, _), (10, _), (12, _), (14, _)]) [16, 2, 3, 9, 10, 12, 14] rfl (fun _ => rfl) ?_
            refine nx_againB (e' := [(16, _)]) (m := _) (H' := _) (by first | exact ⟨i + 1, s1, c, ca, o, oa, ssA, scA, so, scaA, soa, rfl, ⟨by omega, hS1, by omega, hor, hR1⟩, rfl, rfl⟩ | exact ⟨i + 1, s1, c, ca, np, oa, ss1, sc, so1, sca, soa1, rfl, ⟨by omega, hS1, by omega, hor, hRfull⟩, rfl, rfl⟩ | exact ⟨i + 1, s1, np, oa, c, ca, ss1, so1, sc, soa1, sca, rfl, ⟨by omega, hS1, by omega, hor.elim (fun h => .inr ⟨h.2, h.1⟩) (fun h => .inl ⟨h.2, h.1⟩), hRok⟩, rfl, rfl⟩) ?hm_5 ?hp_5
            case hm_5 => omega
            case hp_5 => repeat (first | exact Sub.refl _ | exact Sub.nil _ | (apply Sub.cons; (focus (repeat (first | exact One.here _ _ | apply One.there)))) | refine Sub.drop _ ?_)
        ·
          refine at_exit ?_
          refine nx_thru (by intro h; cases h) ?_
          refine nx_thru (by intro h; cases h) ?_
          refine nx_block_exit ?_
          refine nx_next ?_
          refine at_seq ?_
          refine at_region ?_
          refine op_w (p_move (fun _ => rfl)) rfl rfl ?_
          refine op_w (p_move (fun _ => rfl)) rfl rfl ?_
          refine ops_eff (fun _ => rfl) (fits_of rfl) rfl (w_call (vs := [_, _]) (fun _ => rfl) Tryz.call10 (fun _ => rfl) rfl (sn_reopen s a b ca oa sca soa pa Tx Tg zx zg hS hab hor hR.2.2.1 hR.2.2.2.1) (by repeat (first | exact Pull.nil _ | (apply Pull.cons; (focus (repeat (first | exact One.here _ _ | apply One.there))))))) ?_ no_pan
          rintro _ _ ⟨_, ⟨sp2, c2, o2, ss2, sc2, so2, rfl, hR2, rfl⟩, rfl⟩
          have hlen := hS.len hR
          refine op_w (p_move (fun _ => rfl)) rfl rfl ?_
          refine op_w (p_extract (fun _ => rfl) rfl) rfl rfl ?_
          refine op_w (p_extract (fun _ => rfl) rfl) rfl rfl ?_
          refine op_w (p_assign (fun _ => rfl)) rfl rfl ?_
          refine op_w (p_assign (fun _ => rfl)) rfl rfl ?_
          refine ops_nil ?_
          refine nx_slots (env' := [(9, _), (14, _), (17, _), (18, _)]) [9, 14, 17, 18] rfl (fun _ => rfl) ?_
          refine nx_next ?_
          refine at_seq ?_
          refine at_seq ?_
          refine at_region ?_
          refine op_w (p_move (fun _ => rfl)) rfl rfl ?_
          first | refine op_w (p_neq_nat (n := 0) (fun _ => rfl) (fun _ => rfl)) rfl rfl ?_ | refine op_w (p_neq (fun _ => rfl) (fun _ => rfl)) rfl rfl ?_
          refine op_w (p_move (fun _ => rfl)) rfl rfl ?_
          first | refine ops_split (t := 88) (fun _ => rfl) rfl (fun hgg3 => ?_) (fun hgg3 => ?_) | refine ops_split_bool (t := 88) (fun _ => rfl) rfl (fun hgg3 => ?_) (fun hgg3 => ?_)
          ·
            exfalso; first | exact hgg3 rfl | (cases hgg3; done) | contradiction | omega | (simp at hgg3; done) | (simp at hgg3; omega) | (simp_all; done) | (simp_all; omega)
          ·
            refine op_wg (fun _ => rfl) (p_move (fun _ => rfl)) rfl rfl ?_
            first | refine op_wg (fun _ => rfl) (p_eql_nil_nil Tryz.underlying30 (fun _ => rfl) (fun _ => rfl)) rfl rfl ?_ | refine op_wg (fun _ => rfl) (p_eql_ptr_nil Tryz.underlying30 (fun _ => rfl) (fun _ => rfl)) rfl rfl ?_
            refine op_w (p_pick_f (fun _ => rfl) (fun _ => rfl)) rfl rfl ?_
            refine ops_nil ?_
            refine nx_slots (env' := [(9, _), (14, _), (17, _), (91, _)]) [9, 14, 17, 91] rfl (fun _ => rfl) ?_
            refine nx_next ?_
            refine at_if_bool (fun _ => rfl) (fun hgg4 => ?_) (fun hgg4 => ?_)
            ·
              exfalso; first | exact hgg4 rfl | (cases hgg4; done) | contradiction | omega | (simp at hgg4; done) | (simp at hgg4; omega) | (simp_all; done) | (simp_all; omega)
            ·
              refine at_skip ?_
              refine nx_next ?_
              refine at_seq ?_
              refine at_region ?_
              refine op_w (p_move (fun _ => rfl)) rfl rfl ?_
              refine ops_eff (fun _ => rfl) (fits_of rfl) rfl (w_call (vs := [_]) (fun _ => rfl) Tryz.call14 (fun _ => rfl) rfl (sn_items s sp2 c2 ca o2 oa ss2 sc2 so2 sca soa hS hR2) (by repeat (first | exact Pull.nil _ | (apply Pull.cons; (focus (repeat (first | exact One.here _ _ | apply One.there))))))) ?_ no_pan
              rintro _ _ ⟨_, ⟨svt, hvt, rfl⟩, rfl⟩
              obtain ⟨gt, ct, rfl⟩ := hvt.form
              rw [List.length_map]
              refine op_w (p_assign (fun _ => rfl)) rfl rfl ?_
              refine ops_nil ?_
              refine nx_slots (env' := [(9, _), (14, _), (17, _), (19, _)]) [9, 14, 17, 19] rfl (fun _ => rfl) ?_
              refine nx_next ?_
              refine at_seq ?_
              refine at_seq ?_
              refine at_region ?_
              refine op_w (p_assign (fun _ => rfl)) rfl rfl ?_
              refine ops_nil ?_
              refine nx_slots (env' := [(9, _), (14, _), (17, _), (19, _), (20, _)]) [9, 14, 17, 19, 20] rfl (fun _ => rfl) ?_
              refine nx_next ?_
              refine at_block ?_
              refine at_slots (env' := [(20, _), (9, _), (14, _), (17, _), (19, _)]) [20, 9, 14, 17, 19] rfl (fun _ => rfl) ?_
              refine at_loopB (e0 := [(20, _)]) (H0 := _) (n := _) (fun m e H => ∃ (k : Nat) (xs : List Value) (svx : List Chunk), m = s.its.length - k ∧ (k ≤ s.its.length ∧ xs.length = s.its.length ∧ Row 9 (.slice gt s.its.length ct) xs svx) ∧ e = [(20, .int .i64 (k : Int))] ∧ H = [svx]) (by exact ⟨0, s.its.map strV, _, rfl, ⟨Nat.zero_le _, by simp, by rw [List.length_map] at hvt; exact hvt⟩, rfl, rfl⟩) (by repeat (first | exact Pull.nil _ | (apply Pull.cons; (focus (repeat (first | exact One.here _ _ | apply One.there)))))) ?_
              rintro _ _ _ ⟨k, xs, svx, rfl, ⟨hk, hxl, hrx⟩, rfl, rfl⟩
              refine at_seq ?_
              refine at_seq ?_
              refine at_region ?_
              refine op_w (p_move (fun _ => rfl)) rfl rfl ?_
              refine op_w (p_move (fun _ => rfl)) rfl rfl ?_
              refine op_w (p_len_slice Tryz.underlying34 (fun _ => rfl)) rfl rfl ?_
              first | refine op_w (p_lss_nat (fun _ => rfl) (fun _ => rfl)) rfl rfl ?_ | refine op_w (p_lss (fun _ => rfl) (fun _ => rfl)) rfl rfl ?_
              refine ops_nil ?_
              refine nx_slots (env' := [(9, _), (14, _), (17, _), (19, _), (20, _), (97, _)]) [9, 14, 17, 19, 20, 97] rfl (fun _ => rfl) ?_
              refine nx_next ?_
              first | refine at_if (fun _ => rfl) (fun hlk => ?_) (fun hlk => ?_) | refine at_if_bool (fun _ => rfl) (fun hlk => ?_) (fun hlk => ?_)
              ·
                refine at_skip ?_
                refine nx_next ?_
                refine at_seq ?_
                refine at_block ?_
                obtain ⟨g7, cap7, cur7, z7, hv7, rfl, hk7, hfr7, hset⟩ := row_set hrx (k := k) (by omega)
                injection hv7 with e1 e2 e3
                subst e1 e3
                refine at_region ?_
                refine op_w (p_move (fun _ => rfl)) rfl rfl ?_
                refine op_w (p_move (fun _ => rfl)) rfl rfl ?_
                first | (refine op_w (p_indexAddr_nat0 Tryz.underlying34 Tryz.sizeOf9 (fun _ => rfl) (fun _ => rfl) ?_) rfl rfl ?_; (focus (omega))) | (refine op_w (p_indexAddr_nat1 Tryz.underlying34 Tryz.sizeOf9 (fun _ => rfl) (fun _ => rfl) ?_) rfl rfl ?_; (focus (omega)))
                refine op_e (w_store Tryz.sizeOf9 (fun _ => rfl) (fun _ => rfl) rfl (by repeat (first | exact Upd.here _ | apply Upd.there)) (by rfl) (by omega) (by exact hfr7)) (fun _ => rfl) rfl rfl ?_
                rintro _ _ ⟨rfl, rfl⟩
                refine ops_nil ?_
                refine nx_slots (env' := [(9, _), (14, _), (17, _), (19, _), (20, _)]) [9, 14, 17, 19, 20] rfl (fun _ => rfl) ?_
                refine nx_block_normal ?_
                refine nx_next ?_
                refine at_region ?_
                refine op_w (p_move (fun _ => rfl)) rfl rfl ?_
                first | (refine op_w (p_add_nat (n := 1) (fun _ => rfl) (fun _ => rfl) ?_) rfl rfl ?_; (focus (omega))) | (refine op_w (p_add (fun _ => rfl) (fun _ => rfl) (IntWalk.i64_in _ ?_)) rfl rfl ?_; (focus (omega)))
                refine op_w (p_assign (fun _ => rfl)) rfl rfl ?_
                refine ops_nil ?_
                refine nx_slots (env' := [(9, _), (14, _), (17, _), (19, _), (20, _)]) [9, 14, 17, 19, 20] rfl (fun _ => rfl) ?_
                refine nx_slots (env' := [(20, _), (9, _), (14, _), (17, _), (19, _)]) [20, 9, 14, 17, 19] rfl (fun _ => rfl) ?_
                refine nx_againB (e' := [(20, _)]) (m := _) (H' := _) (by exact ⟨k + 1, _, _, rfl, ⟨by omega, by rw [List.length_set]; exact hxl, hset (Value.string ⟨#[99, 104, 97, 110, 103, 101, 100]⟩)⟩, rfl, rfl⟩) ?hm_7 ?hp_7
                case hm_7 => omega
                case hp_7 => repeat (first | exact Sub.refl _ | exact Sub.nil _ | (apply Sub.cons; (focus (repeat (first | exact One.here _ _ | apply One.there)))) | refine Sub.drop _ ?_)
              ·
                refine at_exit ?_
                refine nx_thru (by intro h; cases h) ?_
                refine nx_thru (by intro h; cases h) ?_
                refine nx_block_exit ?_
                refine nx_next ?_
                refine at_seq ?_
                refine at_region ?_
                refine op_w (p_move (fun _ => rfl)) rfl rfl ?_
                refine op_w (p_move (fun _ => rfl)) rfl rfl ?_
                refine ops_split_bool (t := 104) (fun _ => rfl) rfl (fun hk1 => ?_) (fun hk1 => ?_)
                ·
                  refine op_wg (fun _ => rfl) (p_move (fun _ => rfl)) rfl rfl ?_
                  refine ops_eff (fun _ => rfl) (fits_of rfl) rfl (w_call (vs := [_]) (fun _ => rfl) Tryz.call14 (fun _ => rfl) rfl (sn_items s sp c ca o oa ss sc so sca soa hS hR) (by repeat (first | exact Pull.nil _ | (apply Pull.cons; (focus (repeat (first | exact One.here _ _ | apply One.there))))))) ?_ no_pan
                  rintro _ _ ⟨_, ⟨sv1, hv1, rfl⟩, rfl⟩
                  refine op_wg (fun _ => rfl) (p_move (fun _ => rfl)) rfl rfl ?_
                  refine ops_eff (fun _ => rfl) (fits_of rfl) rfl (w_call (vs := [_]) (fun _ => rfl) Tryz.call14 (fun _ => rfl) rfl (sn_items s sp2 c2 ca o2 oa ss2 sc2 so2 sca soa hS hR2) (by repeat (first | exact Pull.nil _ | (apply Pull.cons; (focus (repeat (first | exact One.here _ _ | apply One.there))))))) ?_ no_pan
                  rintro _ _ ⟨_, ⟨sv2, hv2, rfl⟩, rfl⟩
                  refine op_e (w_callR (vs := [_, _]) (fun _ => rfl) Tryz.call15 (fun _ => rfl) rfl (same_rows hv1 hv2 (by omega)) (by repeat (first | exact Pull.nil _ | (apply Pull.cons; (focus (repeat (first | exact One.here _ _ | apply One.there))))))) (fun _ => rfl) rfl rfl ?_
                  rintro _ _ ⟨rfl, rfl⟩
                  refine op_w (p_pick_t (fun _ => rfl) (fun _ => rfl)) rfl rfl ?_
                  refine op_w (p_move (fun _ => rfl)) rfl rfl ?_
                  first | refine ops_split (t := 111) (fun _ => rfl) rfl (fun hk2 => ?_) (fun hk2 => ?_) | refine ops_split_bool (t := 111) (fun _ => rfl) rfl (fun hk2 => ?_) (fun hk2 => ?_)
                  ·
                    refine op_wg (fun _ => rfl) (p_move (fun _ => rfl)) rfl rfl ?_
                    refine op_e (w_callR (vs := [_]) (fun _ => rfl) Tryz.call16 (fun _ => rfl) rfl (sn_gen s sp c ca o oa ss sc so sca soa hR) (by repeat (first | exact Pull.nil _ | (apply Pull.cons; (focus (repeat (first | exact One.here _ _ | apply One.there))))))) (fun _ => rfl) rfl rfl ?_
                    rintro _ _ ⟨rfl, rfl⟩
                    refine op_wg (fun _ => rfl) (p_move (fun _ => rfl)) rfl rfl ?_
                    refine op_e (w_callR (vs := [_]) (fun _ => rfl) Tryz.call16 (fun _ => rfl) rfl (sn_gen s sp2 c2 ca o2 oa ss2 sc2 so2 sca soa hR2) (by repeat (first | exact Pull.nil _ | (apply Pull.cons; (focus (repeat (first | exact One.here _ _ | apply One.there))))))) (fun _ => rfl) rfl rfl ?_
                    rintro _ _ ⟨rfl, rfl⟩
                    first | refine op_wg (fun _ => rfl) (p_eql_nat (fun _ => rfl) (fun _ => rfl)) rfl rfl ?_ | refine op_wg (fun _ => rfl) (p_eql (fun _ => rfl) (fun _ => rfl)) rfl rfl ?_
                    refine op_w (p_pick_t (fun _ => rfl) (fun _ => rfl)) rfl rfl ?_
                    refine op_w (p_move (fun _ => rfl)) rfl rfl ?_
                    first | refine ops_split (t := 118) (fun _ => rfl) rfl (fun hk3 => ?_) (fun hk3 => ?_) | refine ops_split_bool (t := 118) (fun _ => rfl) rfl (fun hk3 => ?_) (fun hk3 => ?_)
                    ·
                      refine op_wg (fun _ => rfl) (p_move (fun _ => rfl)) rfl rfl ?_
                      refine op_e (w_callR (vs := [_]) (fun _ => rfl) Tryz.call17 (fun _ => rfl) rfl (sn_room s sp c ca o oa ss sc so sca soa hS hR) (by repeat (first | exact Pull.nil _ | (apply Pull.cons; (focus (repeat (first | exact One.here _ _ | apply One.there))))))) (fun _ => rfl) rfl rfl ?_
                      rintro _ _ ⟨rfl, rfl⟩
                      refine op_wg (fun _ => rfl) (p_move (fun _ => rfl)) rfl rfl ?_
                      refine op_e (w_callR (vs := [_]) (fun _ => rfl) Tryz.call17 (fun _ => rfl) rfl (sn_room s sp2 c2 ca o2 oa ss2 sc2 so2 sca soa hS hR2) (by repeat (first | exact Pull.nil _ | (apply Pull.cons; (focus (repeat (first | exact One.here _ _ | apply One.there))))))) (fun _ => rfl) rfl rfl ?_
                      rintro _ _ ⟨rfl, rfl⟩
                      first | refine op_wg (fun _ => rfl) (p_eql_nat (fun _ => rfl) (fun _ => rfl)) rfl rfl ?_ | refine op_wg (fun _ => rfl) (p_eql (fun _ => rfl) (fun _ => rfl)) rfl rfl ?_
                      refine op_w (p_pick_t (fun _ => rfl) (fun _ => rfl)) rfl rfl ?_
                      refine op_w (p_assign (fun _ => rfl)) rfl rfl ?_
                      refine ops_nil ?_
                      refine nx_slots (env' := [(8, _)]) [8] rfl (fun _ => rfl) ?_
                      refine nx_next ?_
                      refine at_ret ?_
                      refine nx_end1 (H' := _) rfl Tryz.results3 (fun _ => rfl) (by exact ⟨by simp, rfl⟩) ?hp_8
                      case hp_8 => repeat (first | exact Sub.refl _ | exact Sub.nil _ | (apply Sub.cons; (focus (repeat (first | exact One.here _ _ | apply One.there)))) | refine Sub.drop _ ?_)
                    ·
                      exfalso; first | exact hk3 rfl | (cases hk3; done) | contradiction | omega | (simp at hk3; done) | (simp at hk3; omega) | (simp_all; done) | (simp_all; omega)
                  ·
                    exfalso; exact hk2 rfl
                ·
                  exfalso; first | exact hk1 rfl | (cases hk1; done) | contradiction | omega | (simp at hk1; done) | (simp at hk1; omega) | (simp_all; done) | (simp_all; omega)
      ·
        refine op_skip (fun _ => rfl) rfl ?_
        refine op_skip (fun _ => rfl) rfl ?_
        refine op_w (p_pick_f (fun _ => rfl) (fun _ => rfl)) rfl rfl ?_
        refine ops_nil ?_
        refine nx_slots (env' := [(2, _), (3, _), (9, _), (10, _), (12, _), (14, _), (16, _), (53, _)]) [2, 3, 9, 10, 12, 14, 16, 53] rfl (fun _ => rfl) ?_
        refine nx_next ?_
        refine at_else (fun _ => rfl) ?_
        refine at_exit ?_
        refine nx_thru (by intro h; cases h) ?_
        refine nx_thru (by intro h; cases h) ?_
        refine nx_block_exit ?_
        refine nx_next ?_
        refine at_seq ?_
        refine at_region ?_
        refine op_w (p_move (fun _ => rfl)) rfl rfl ?_
        refine op_w (p_move (fun _ => rfl)) rfl rfl ?_
        refine ops_eff (fun _ => rfl) (fits_of rfl) rfl (w_call (vs := [_, _]) (fun _ => rfl) Tryz.call10 (fun _ => rfl) rfl (sn_reopen s a b ca oa sca soa pa Tx Tg zx zg hS hab hor hR.2.2.1 hR.2.2.2.1) (by repeat (first | exact Pull.nil _ | (apply Pull.cons; (focus (repeat (first | exact One.here _ _ | apply One.there))))))) ?_ no_pan
        rintro _ _ ⟨_, ⟨sp2, c2, o2, ss2, sc2, so2, rfl, hR2, rfl⟩, rfl⟩
        have hlen := hS.len hR
        refine op_w (p_move (fun _ => rfl)) rfl rfl ?_
        refine op_w (p_extract (fun _ => rfl) rfl) rfl rfl ?_
        refine op_w (p_extract (fun _ => rfl) rfl) rfl rfl ?_
        refine op_w (p_assign (fun _ => rfl)) rfl rfl ?_
        refine op_w (p_assign (fun _ => rfl)) rfl rfl ?_
        refine ops_nil ?_
        refine nx_slots (env' := [(9, _), (14, _), (17, _), (18, _)]) [9, 14, 17, 18] rfl (fun _ => rfl) ?_
        refine nx_next ?_
        refine at_seq ?_
        refine at_seq ?_
        refine at_region ?_
        refine op_w (p_move (fun _ => rfl)) rfl rfl ?_
        first | refine op_w (p_neq_nat (n := 0) (fun _ => rfl) (fun _ => rfl)) rfl rfl ?_ | refine op_w (p_neq (fun _ => rfl) (fun _ => rfl)) rfl rfl ?_
        refine op_w (p_move (fun _ => rfl)) rfl rfl ?_
        first | refine ops_split (t := 88) (fun _ => rfl) rfl (fun hgg3 => ?_) (fun hgg3 => ?_) | refine ops_split_bool (t := 88) (fun _ => rfl) rfl (fun hgg3 => ?_) (fun hgg3 => ?_)
        ·
          exfalso; first | exact hgg3 rfl | (cases hgg3; done) | contradiction | omega | (simp at hgg3; done) | (simp at hgg3; omega) | (simp_all; done) | (simp_all; omega)
        ·
          refine op_wg (fun _ => rfl) (p_move (fun _ => rfl)) rfl rfl ?_
          first | refine op_wg (fun _ => rfl) (p_eql_nil_nil Tryz.underlying30 (fun _ => rfl) (fun _ => rfl)) rfl rfl ?_ | refine op_wg (fun _ => rfl) (p_eql_ptr_nil Tryz.underlying30 (fun _ => rfl) (fun _ => rfl)) rfl rfl ?_
          refine op_w (p_pick_f (fun _ => rfl) (fun _ => rfl)) rfl rfl ?_
          refine ops_nil ?_
          refine nx_slots (env' := [(9, _), (14, _), (17, _), (91, _)]) [9, 14, 17, 91] rfl (fun _ => rfl) ?_
          refine nx_next ?_
          refine at_if_bool (fun _ => rfl) (fun hgg4 => ?_) (fun hgg4 => ?_)
          ·
            exfalso; first | exact hgg4 rfl | (cases hgg4; done) | contradiction | omega | (simp at hgg4; done) | (simp at hgg4; omega) | (simp_all; done) | (simp_all; omega)
          ·
            refine at_skip ?_
            refine nx_next ?_
            refine at_seq ?_
            refine at_region ?_
            refine op_w (p_move (fun _ => rfl)) rfl rfl ?_
            refine ops_eff (fun _ => rfl) (fits_of rfl) rfl (w_call (vs := [_]) (fun _ => rfl) Tryz.call14 (fun _ => rfl) rfl (sn_items s sp2 c2 ca o2 oa ss2 sc2 so2 sca soa hS hR2) (by repeat (first | exact Pull.nil _ | (apply Pull.cons; (focus (repeat (first | exact One.here _ _ | apply One.there))))))) ?_ no_pan
            rintro _ _ ⟨_, ⟨svt, hvt, rfl⟩, rfl⟩
            obtain ⟨gt, ct, rfl⟩ := hvt.form
            rw [List.length_map]
            refine op_w (p_assign (fun _ => rfl)) rfl rfl ?_
            refine ops_nil ?_
            refine nx_slots (env' := [(9, _), (14, _), (17, _), (19, _)]) [9, 14, 17, 19] rfl (fun _ => rfl) ?_
            refine nx_next ?_
            refine at_seq ?_
            refine at_seq ?_
            refine at_region ?_
            refine op_w (p_assign (fun _ => rfl)) rfl rfl ?_
            refine ops_nil ?_
            refine nx_slots (env' := [(9, _), (14, _), (17, _), (19, _), (20, _)]) [9, 14, 17, 19, 20] rfl (fun _ => rfl) ?_
            refine nx_next ?_
            refine at_block ?_
            refine at_slots (env' := [(20, _), (9, _), (14, _), (17, _), (19, _)]) [20, 9, 14, 17, 19] rfl (fun _ => rfl) ?_
            refine at_loopB (e0 := [(20, _)]) (H0 := _) (n := _) (fun m e H => ∃ (k : Nat) (xs : List Value) (svx : List Chunk), m = s.its.length - k ∧ (k ≤ s.its.length ∧ xs.length = s.its.length ∧ Row 9 (.slice gt s.its.length ct) xs svx) ∧ e = [(20, .int .i64 (k : Int))] ∧ H = [svx]) (by exact ⟨0, s.its.map strV, _, rfl, ⟨Nat.zero_le _, by simp, by rw [List.length_map] at hvt; exact hvt⟩, rfl, rfl⟩) (by repeat (first | exact Pull.nil _ | (apply Pull.cons; (focus (repeat (first | exact One.here _ _ | apply One.there)))))) ?_
            rintro _ _ _ ⟨k, xs, svx, rfl, ⟨hk, hxl, hrx⟩, rfl, rfl⟩
            refine at_seq ?_
            refine at_seq ?_
            refine at_region ?_
            refine op_w (p_move (fun _ => rfl)) rfl rfl ?_
            refine op_w (p_move (fun _ => rfl)) rfl rfl ?_
            refine op_w (p_len_slice Tryz.underlying34 (fun _ => rfl)) rfl rfl ?_
            first | refine op_w (p_lss_nat (fun _ => rfl) (fun _ => rfl)) rfl rfl ?_ | refine op_w (p_lss (fun _ => rfl) (fun _ => rfl)) rfl rfl ?_
            refine ops_nil ?_
            refine nx_slots (env' := [(9, _), (14, _), (17, _), (19, _), (20, _), (97, _)]) [9, 14, 17, 19, 20, 97] rfl (fun _ => rfl) ?_
            refine nx_next ?_
            first | refine at_if (fun _ => rfl) (fun hlk => ?_) (fun hlk => ?_) | refine at_if_bool (fun _ => rfl) (fun hlk => ?_) (fun hlk => ?_)
            ·
              refine at_skip ?_
              refine nx_next ?_
              refine at_seq ?_
              refine at_block ?_
              obtain ⟨g7, cap7, cur7, z7, hv7, rfl, hk7, hfr7, hset⟩ := row_set hrx (k := k) (by omega)
              injection hv7 with e1 e2 e3
              subst e1 e3
              refine at_region ?_
              refine op_w (p_move (fun _ => rfl)) rfl rfl ?_
              refine op_w (p_move (fun _ => rfl)) rfl rfl ?_
              first | (refine op_w (p_indexAddr_nat0 Tryz.underlying34 Tryz.sizeOf9 (fun _ => rfl) (fun _ => rfl) ?_) rfl rfl ?_; (focus (omega))) | (refine op_w (p_indexAddr_nat1 Tryz.underlying34 Tryz.sizeOf9 (fun _ => rfl) (fun _ => rfl) ?_) rfl rfl ?_; (focus (omega)))
              refine op_e (w_store Tryz.sizeOf9 (fun _ => rfl) (fun _ => rfl) rfl (by repeat (first | exact Upd.here _ | apply Upd.there)) (by rfl) (by omega) (by exact hfr7)) (fun _ => rfl) rfl rfl ?_
              rintro _ _ ⟨rfl, rfl⟩
              refine ops_nil ?_
              refine nx_slots (env' := [(9, _), (14, _), (17, _), (19, _), (20, _)]) [9, 14, 17, 19, 20] rfl (fun _ => rfl) ?_
              refine nx_block_normal ?_
              refine nx_next ?_
              refine at_region ?_
              refine op_w (p_move (fun _ => rfl)) rfl rfl ?_
              first | (refine op_w (p_add_nat (n := 1) (fun _ => rfl) (fun _ => rfl) ?_) rfl rfl ?_; (focus (omega))) | (refine op_w (p_add (fun _ => rfl) (fun _ => rfl) (IntWalk.i64_in _ ?_)) rfl rfl ?_; (focus (omega)))
              refine op_w (p_assign (fun _ => rfl)) rfl rfl ?_
              refine ops_nil ?_
              refine nx_slots (env' := [(9, _), (14, _), (17, _), (19, _), (20, _)]) [9, 14, 17, 19, 20] rfl (fun _ => rfl) ?_
              refine nx_slots (env' := [(20, _), (9, _), (14, _), (17, _), (19, _)]) [20, 9, 14, 17, 19] rfl (fun _ => rfl) ?_
              refine nx_againB (e' := [(20, _)]) (m := _) (H' := _) (by exact ⟨k + 1, _, _, rfl, ⟨by omega, by rw [List.length_set]; exact hxl, hset (Value.string ⟨#[99, 104, 97, 110, 103, 101, 100]⟩)⟩, rfl, rfl⟩) ?hm_10 ?hp_10
              case hm_10 => omega
              case hp_10 => repeat (first | exact Sub.refl _ | exact Sub.nil _ | (apply Sub.cons; (focus (repeat (first | exact One.here _ _ | apply One.there)))) | refine Sub.drop _ ?_)
            ·
              refine at_exit ?_
              refine nx_thru (by intro h; cases h) ?_
              refine nx_thru (by intro h; cases h) ?_
              refine nx_block_exit ?_
              refine nx_next ?_
              refine at_seq ?_
              refine at_region ?_
              refine op_w (p_move (fun _ => rfl)) rfl rfl ?_
              refine op_w (p_move (fun _ => rfl)) rfl rfl ?_
              refine ops_split_bool (t := 104) (fun _ => rfl) rfl (fun hk1 => ?_) (fun hk1 => ?_)
              ·
                refine op_wg (fun _ => rfl) (p_move (fun _ => rfl)) rfl rfl ?_
                refine ops_eff (fun _ => rfl) (fits_of rfl) rfl (w_call (vs := [_]) (fun _ => rfl) Tryz.call14 (fun _ => rfl) rfl (sn_items s sp c ca o oa ss sc so sca soa hS hR) (by repeat (first | exact Pull.nil _ | (apply Pull.cons; (focus (repeat (first | exact One.here _ _ | apply One.there))))))) ?_ no_pan
                rintro _ _ ⟨_, ⟨sv1, hv1, rfl⟩, rfl⟩
                refine op_wg (fun _ => rfl) (p_move (fun _ => rfl)) rfl rfl ?_
                refine ops_eff (fun _ => rfl) (fits_of rfl) rfl (w_call (vs := [_]) (fun _ => rfl) Tryz.call14 (fun _ => rfl) rfl (sn_items s sp2 c2 ca o2 oa ss2 sc2 so2 sca soa hS hR2) (by repeat (first | exact Pull.nil _ | (apply Pull.cons; (focus (repeat (first | exact One.here _ _ | apply One.there))))))) ?_ no_pan
                rintro _ _ ⟨_, ⟨sv2, hv2, rfl⟩, rfl⟩
                refine op_e (w_callR (vs := [_, _]) (fun _ => rfl) Tryz.call15 (fun _ => rfl) rfl (same_rows hv1 hv2 (by omega)) (by repeat (first | exact Pull.nil _ | (apply Pull.cons; (focus (repeat (first | exact One.here _ _ | apply One.there))))))) (fun _ => rfl) rfl rfl ?_
                rintro _ _ ⟨rfl, rfl⟩
                refine op_w (p_pick_t (fun _ => rfl) (fun _ => rfl)) rfl rfl ?_
                refine op_w (p_move (fun _ => rfl)) rfl rfl ?_
                first | refine ops_split (t := 111) (fun _ => rfl) rfl (fun hk2 => ?_) (fun hk2 => ?_) | refine ops_split_bool (t := 111) (fun _ => rfl) rfl (fun hk2 => ?_) (fun hk2 => ?_)
                ·
                  refine op_wg (fun _ => rfl) (p_move (fun _ => rfl)) rfl rfl ?_
                  refine op_e (w_callR (vs := [_]) (fun _ => rfl) Tryz.call16 (fun _ => rfl) rfl (sn_gen s sp c ca o oa ss sc so sca soa hR) (by repeat (first | exact Pull.nil _ | (apply Pull.cons; (focus (repeat (first | exact One.here _ _ | apply One.there))))))) (fun _ => rfl) rfl rfl ?_
                  rintro _ _ ⟨rfl, rfl⟩
                  refine op_wg (fun _ => rfl) (p_move (fun _ => rfl)) rfl rfl ?_
                  refine op_e (w_callR (vs := [_]) (fun _ => rfl) Tryz.call16 (fun _ => rfl) rfl (sn_gen s sp2 c2 ca o2 oa ss2 sc2 so2 sca soa hR2) (by repeat (first | exact Pull.nil _ | (apply Pull.cons; (focus (repeat (first | exact One.here _ _ | apply One.there))))))) (fun _ => rfl) rfl rfl ?_
                  rintro _ _ ⟨rfl, rfl⟩
                  first | refine op_wg (fun _ => rfl) (p_eql_nat (fun _ => rfl) (fun _ => rfl)) rfl rfl ?_ | refine op_wg (fun _ => rfl) (p_eql (fun _ => rfl) (fun _ => rfl)) rfl rfl ?_
                  refine op_w (p_pick_t (fun _ => rfl) (fun _ => rfl)) rfl rfl ?_
                  refine op_w (p_move (fun _ => rfl)) rfl rfl ?_
                  first | refine ops_split (t := 118) (fun _ => rfl) rfl (fun hk3 => ?_) (fun hk3 => ?_) | refine ops_split_bool (t := 118) (fun _ => rfl) rfl (fun hk3 => ?_) (fun hk3 => ?_)
                  ·
                    refine op_wg (fun _ => rfl) (p_move (fun _ => rfl)) rfl rfl ?_
                    refine op_e (w_callR (vs := [_]) (fun _ => rfl) Tryz.call17 (fun _ => rfl) rfl (sn_room s sp c ca o oa ss sc so sca soa hS hR) (by repeat (first | exact Pull.nil _ | (apply Pull.cons; (focus (repeat (first | exact One.here _ _ | apply One.there))))))) (fun _ => rfl) rfl rfl ?_
                    rintro _ _ ⟨rfl, rfl⟩
                    refine op_wg (fun _ => rfl) (p_move (fun _ => rfl)) rfl rfl ?_
                    refine op_e (w_callR (vs := [_]) (fun _ => rfl) Tryz.call17 (fun _ => rfl) rfl (sn_room s sp2 c2 ca o2 oa ss2 sc2 so2 sca soa hS hR2) (by repeat (first | exact Pull.nil _ | (apply Pull.cons; (focus (repeat (first | exact One.here _ _ | apply One.there))))))) (fun _ => rfl) rfl rfl ?_
                    rintro _ _ ⟨rfl, rfl⟩
                    first | refine op_wg (fun _ => rfl) (p_eql_nat (fun _ => rfl) (fun _ => rfl)) rfl rfl ?_ | refine op_wg (fun _ => rfl) (p_eql (fun _ => rfl) (fun _ => rfl)) rfl rfl ?_
                    refine op_w (p_pick_t (fun _ => rfl) (fun _ => rfl)) rfl rfl ?_
                    refine op_w (p_assign (fun _ => rfl)) rfl rfl ?_
                    refine ops_nil ?_
                    refine nx_slots (env' := [(8, _)]) [8] rfl (fun _ => rfl) ?_
                    refine nx_next ?_
                    refine at_ret ?_
                    refine nx_end1 (H' := _) rfl Tryz.results3 (fun _ => rfl) (by exact ⟨by simp, rfl⟩) ?hp_11
                    case hp_11 => repeat (first | exact Sub.refl _ | exact Sub.nil _ | (apply Sub.cons; (focus (repeat (first | exact One.here _ _ | apply One.there)))) | refine Sub.drop _ ?_)
                  ·
                    exfalso; first | exact hk3 rfl | (cases hk3; done) | contradiction | omega | (simp at hk3; done) | (simp at hk3; omega) | (simp_all; done) | (simp_all; omega)
                ·
                  exfalso; exact hk2 rfl
              ·
                exfalso; first | exact hk1 rfl | (cases hk1; done) | contradiction | omega | (simp at hk1; done) | (simp at hk1; omega) | (simp_all; done) | (simp_all; omega)

end Go.Proofs.YtohgibkpkknfnaaGreatDoor
