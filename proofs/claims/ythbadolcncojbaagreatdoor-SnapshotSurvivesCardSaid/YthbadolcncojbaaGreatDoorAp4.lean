/- Contract: journal.Append where it refuses, and at a nil list. -/
import Derived.Test.YthbadolcncojbaaGreatDoorAp3
namespace Go.Proofs.YthbadolcncojbaaGreatDoor
open Go Go.RowKit Gw
set_option linter.unusedVariables false
set_option maxRecDepth 100000
attribute [local irreducible] Gw.At Gw.Nx Gw.Ops
theorem append_broken (jp : Nat) (v c0 c1 c2 c3 : Value) (Tt : TypeId) : DoesR Tryz.prog 13 #[.pointer (some ⟨jp, 0, none⟩), v] [[(jp, .cells #[c0, c1, c2, c3, .bool true] Tt (0, 0))]] (.int .i64 230) := by
 refine spec_enter Tryz.func13 rfl Tryz.ntmps13 rfl ?_
 intro u R
 refine at_slots (env' := [(0, _), (1, _)]) [0, 1] rfl (fun _=>rfl) ?_
 refine at_seq ?_
 refine at_region ?_
 refine op_v (p_assign (fun _=>rfl)) ?_
 refine ops_nil ?_
 refine nx_next ?_
 refine at_seq ?_
 refine at_seq ?_
 refine at_region ?_
 refine op_v (p_move (fun _=>rfl)) ?_
 first | refine op_v (p_eql_nil_nil Tryz.underlying30 (fun _=>rfl) (fun _=>rfl)) ?_ | refine op_v (p_eql_ptr_nil Tryz.underlying30 (fun _=>rfl) (fun _=>rfl)) ?_
 refine ops_nil ?_
 refine nx_next ?_
 refine at_if_bool (fun _=>rfl) (fun hc1 => ?_) (fun hc1 => ?_)
 ·
  cases hc1
 ·
  refine at_skip ?_
  refine nx_next ?_
  refine at_seq ?_
  refine at_region ?_
  refine op_v (p_assign (fun _=>rfl)) ?_
  refine ops_nil ?_
  refine nx_next ?_
  refine at_seq ?_
  refine at_seq ?_
  refine at_region ?_
  refine op_v (p_move (fun _=>rfl)) ?_
  refine op_v (p_nilChk (fun _=>rfl) rfl) ?_
  refine op_v (p_fieldAddr0 (off := 4) Tryz.underlying109 rfl rfl Tryz.sizeOf4 (fun _=>rfl)) ?_
  refine op_r (by repeat (first | exact Has.here _ | apply Has.there)) (p_load Tryz.isAgg4 (fun _=>rfl) (by rfl)) rfl rfl ?_
  refine op_v (p_move (fun _=>rfl)) ?_
  refine ops_split_bool (t := 18) (fun _=>rfl) rfl (fun hb => ?_) (fun hb => ?_)
  ·
   refine op_skip (fun _=>rfl) rfl ?_
   refine op_skip (fun _=>rfl) rfl ?_
   refine op_skip (fun _=>rfl) rfl ?_
   refine op_v (p_pick_t (fun _=>rfl) (fun _=>rfl)) ?_
   refine ops_nil ?_
   refine nx_slots (env' := [(0, _), (1, _), (22, _)]) [0, 1, 22] rfl (fun _=>rfl) ?_
   refine nx_next ?_
   refine at_then (fun _=>rfl) ?_
   refine at_seq ?_
   refine at_region ?_
   refine op_v (p_assign (fun _=>rfl)) ?_
   refine ops_nil ?_
   refine nx_next ?_
   refine at_ret ?_
   refine nx_thru (by intro h; cases h) ?_
   refine nx_end1 (H' := _) rfl Tryz.results13 (fun _=>rfl) (by exact ⟨rfl, rfl⟩)
  ·
   cases hb

theorem append_none (jp dp sz : Nat) (v : Value) (rs : List (List UInt8)) (sr sd : List Chunk) (h : List UInt8) (d : DiskS) (Tt : TypeId) (hrow : Row 9 v (rs.map strV) sr) (hz : sz ≤ d.vi.length) (hn : rs.length ≤ 4194304) (hR : DiskR d dp sd) :
    DoesR Tryz.prog 13 #[.pointer (some ⟨jp, 0, none⟩), .slice none 0 0] [[(jp, .cells #[v, .string (str h), .int .i64 (sz : Int), .pointer (some ⟨dp, 0, none⟩), .bool false] Tt (0, 0))], sr, sd] (.int .i64 0) := by
 have hvi : d.vi.length ≤ 4194304 := hR.1.2.2.1
 obtain ⟨gv, cv, rfl⟩ := hrow.form
 refine spec_enter Tryz.func13 rfl Tryz.ntmps13 rfl ?_
 intro u R
 refine at_slots (env' := [(0, _), (1, _)]) [0, 1] rfl (fun _=>rfl) ?_
 refine at_seq ?_
 refine at_region ?_
 refine op_v (p_assign (fun _=>rfl)) ?_
 refine ops_nil ?_
 refine nx_next ?_
 refine at_seq ?_
 refine at_seq ?_
 refine at_region ?_
 refine op_v (p_move (fun _=>rfl)) ?_
 first | refine op_v (p_eql_nil_nil Tryz.underlying30 (fun _=>rfl) (fun _=>rfl)) ?_ | refine op_v (p_eql_ptr_nil Tryz.underlying30 (fun _=>rfl) (fun _=>rfl)) ?_
 refine ops_nil ?_
 refine nx_next ?_
 refine at_if_bool (fun _=>rfl) (fun hc1 => ?_) (fun hc1 => ?_)
 ·
  cases hc1
 ·
  refine at_skip ?_
  refine nx_next ?_
  refine at_seq ?_
  refine at_region ?_
  refine op_v (p_assign (fun _=>rfl)) ?_
  refine ops_nil ?_
  refine nx_next ?_
  refine at_seq ?_
  refine at_seq ?_
  refine at_region ?_
  refine op_v (p_move (fun _=>rfl)) ?_
  refine op_v (p_nilChk (fun _=>rfl) rfl) ?_
  refine op_v (p_fieldAddr0 (off := 4) Tryz.underlying109 rfl rfl Tryz.sizeOf4 (fun _=>rfl)) ?_
  refine op_r (by repeat (first | exact Has.here _ | apply Has.there)) (p_load Tryz.isAgg4 (fun _=>rfl) (by rfl)) rfl rfl ?_
  refine op_v (p_move (fun _=>rfl)) ?_
  refine ops_split_bool (t := 18) (fun _=>rfl) rfl (fun hb => ?_) (fun hb => ?_)
  ·
   cases hb
  ·
   refine op_wg (fun _=>rfl) (p_move (fun _=>rfl)) rfl rfl ?_
   refine op_wg (fun _=>rfl) (p_move (fun _=>rfl)) rfl rfl ?_
   refine op_e (w_callR (vs := [_, _]) (fun _=>rfl) Tryz.call54 (fun _=>rfl) rfl (contains_none _) (by repeat (first | exact Pull.nil _ | (apply Pull.cons; (focus (repeat (first | exact One.here _ _ | apply One.there))))))) (fun _=>rfl) rfl rfl ?_
   rintro _ _ ⟨rfl, rfl⟩
   refine op_v (p_pick_f (fun _=>rfl) (fun _=>rfl)) ?_
   refine ops_nil ?_
   refine nx_slots (env' := [(0, _), (1, _), (22, _)]) [0, 1, 22] rfl (fun _=>rfl) ?_
   refine nx_next ?_
   refine at_if_bool (fun _=>rfl) (fun hl => ?_) (fun hl => ?_)
   ·
    cases hl
   ·
    refine at_skip ?_
    refine nx_next ?_
    refine at_seq ?_
    refine at_region ?_
    refine op_v (p_move (fun _=>rfl)) ?_
    refine op_v (p_nilChk (fun _=>rfl) rfl) ?_
    refine op_v (p_fieldAddr0 (off := 0) Tryz.underlying109 rfl rfl Tryz.sizeOf107 (fun _=>rfl)) ?_
    refine op_r (by repeat (first | exact Has.here _ | apply Has.there)) (p_load_agg (cs := #[_, _, _]) Tryz.isAgg107 Tryz.sizeOf107 (fun _=>rfl) (by first | decide | exact Nat.le_refl _ | (simp; done) | (simp; omega)) (by rfl)) rfl rfl ?_
    refine op_e (w_alloc Tryz.zeroValue107 (cs := #[_, _, _]) rfl) (fun _=>rfl) rfl rfl ?_
    rintro _ _ ⟨nx, rfl, rfl⟩
    refine op_e (w_store_agg Tryz.sizeOf107 (fun _=>rfl) (fun _=>rfl) (by first | (simp [Value.oneCell']; done) | (simp [Value.oneCell', Value.cells]; done)) (by repeat (first | exact Upd.here _ | apply Upd.there)) (by exact (rfl : _ = (#[.slice gv _ cv, .string (str h), .int .i64 (sz : Int)] : Array Value))) (by first | rfl | (simp; done)) (by first | decide | exact Nat.le_refl _ | (simp; done) | (simp; omega)) (by exact free_zero _)) (fun _=>rfl) rfl rfl ?_
    rintro _ _ ⟨rfl, rfl⟩
    refine ops_nil ?_
    refine nx_next ?_
    refine at_seq ?_
    refine at_region ?_
    refine op_v (p_fieldAddr0 (off := 0) Tryz.underlying107 rfl rfl Tryz.sizeOf43 (fun _=>rfl)) ?_
    refine op_r (by repeat (first | exact Has.here _ | apply Has.there)) (p_load Tryz.isAgg43 (fun _=>rfl) (by rfl)) rfl rfl ?_
    refine ops_eff (fun _=>rfl) (fits_of rfl) rfl (w_call (vs := [_]) (fun _=>rfl) Tryz.call55 (fun _=>rfl) rfl (clone_spec _ rs sr hrow (by omega)) (by repeat (first | exact Pull.nil _ | (apply Pull.cons; (focus (repeat (first | exact One.here _ _ | apply One.there))))))) ?_ no_pan
    rintro _ _ ⟨_, ⟨srn, hrn, rfl⟩, rfl⟩
    obtain ⟨gn, cn, rfl⟩ := hrn.form
    refine op_v (p_fieldAddr0 (off := 0) Tryz.underlying107 rfl rfl Tryz.sizeOf43 (fun _=>rfl)) ?_
    refine op_e (w_store Tryz.sizeOf43 (fun _=>rfl) (fun _=>rfl) rfl (by repeat (first | exact Upd.here _ | apply Upd.there)) (by rfl) (by first | decide | exact Nat.le_refl _ | (simp; done) | (simp; omega)) (by exact free_zero _)) (fun _=>rfl) rfl rfl ?_
    rintro _ _ ⟨rfl, rfl⟩
    refine ops_nil ?_
    refine nx_next ?_
    refine at_seq ?_
    refine at_region ?_
    refine op_e (w_alloc Tryz.zeroValue123 (cs := #[_, _]) rfl) (fun _=>rfl) rfl rfl ?_
    rintro _ _ ⟨bo, rfl, rfl⟩
    refine ops_nil ?_
    refine nx_next ?_
    refine at_seq ?_
    refine at_seq ?_
    refine at_region ?_
    refine op_v (p_move (fun _=>rfl)) ?_
    refine op_v (p_len_slice Tryz.underlying43 (fun _=>rfl)) ?_
    refine op_v (p_move (fun _=>rfl)) ?_
    refine ops_nil ?_
    refine nx_slots (env' := [(0, _), (6, _), (7, _), (31, _), (32, _), (33, _)]) [0, 6, 7, 31, 32, 33] rfl (fun _=>rfl) ?_
    refine nx_next ?_
    refine at_block ?_
    refine at_slots (env' := [(33, _), (0, _), (6, _), (7, _), (31, _), (32, _)]) [33, 0, 6, 7, 31, 32] rfl (fun _=>rfl) ?_
    refine at_loopB (e0 := [(33, _)]) (H0 := _) (n := _) (fun m e H => ∃ (i : Nat), m = 0 + i ∧ (True) ∧ e = [(33, .int .i64 (i : Int))] ∧ H = []) (by exact ⟨0, rfl, trivial, rfl, rfl⟩) (by repeat (first | exact Pull.nil _ | (apply Pull.cons; (focus (repeat (first | exact One.here _ _ | apply One.there)))))) ?_
    rintro _ _ _ ⟨i, rfl, _, rfl, rfl⟩
    refine at_seq ?_
    refine at_region ?_
    first | refine op_v (p_lss_nat (fun _=>rfl) (fun _=>rfl)) ?_ | refine op_v (p_lss (fun _=>rfl) (fun _=>rfl)) ?_
    refine ops_nil ?_
    refine nx_next ?_
    refine at_seq ?_
    first | refine at_if (fun _=>rfl) (fun hlt => ?_) (fun hlt => ?_) | refine at_if_bool (fun _=>rfl) (fun hlt => ?_) (fun hlt => ?_)
    ·
     exfalso; omega
    ·
     refine at_exit ?_
     refine nx_thru (by intro h; cases h) ?_
     refine nx_thru (by intro h; cases h) ?_
     refine nx_block_exit ?_
     refine nx_next ?_
     refine at_seq ?_
     refine at_region ?_
     refine ops_eff (fun _=>rfl) (fits_of rfl) rfl (w_call (vs := [_]) (fun _=>rfl) Tryz.call58 (fun _=>rfl) rfl (builderString_none bo _) (by repeat (first | exact Pull.nil _ | (apply Pull.cons; (focus (repeat (first | exact One.here _ _ | apply One.there))))))) ?_ no_pan
     rintro _ _ ⟨_, ⟨rfl, rfl⟩, rfl⟩
     refine op_v (p_assign (fun _=>rfl)) ?_
     refine ops_nil ?_
     refine nx_next ?_
     refine at_seq ?_
     refine at_block ?_
     refine at_seq ?_
     refine at_region ?_
     refine op_v (p_move (fun _=>rfl)) ?_
     refine op_w (p_len_strL Tryz.underlying9 (fun _=>rfl)) rfl rfl ?_
     refine op_v (p_move (fun _=>rfl)) ?_
     refine op_e (w_callR (vs := [_]) (fun _=>rfl) Tryz.call17 (fun _=>rfl) rfl (room_spec jp sz dp _ h false Tt d sd hR (by omega)) (by repeat (first | exact Pull.nil _ | (apply Pull.cons; (focus (repeat (first | exact One.here _ _ | apply One.there))))))) (fun _=>rfl) rfl rfl ?_
     rintro _ _ ⟨rfl, rfl⟩
     first | refine op_v (p_gtr_nat (fun _=>rfl) (fun _=>rfl)) ?_ | refine op_v (p_gtr (fun _=>rfl) (fun _=>rfl)) ?_
     refine op_v (p_assign (fun _=>rfl)) ?_
     refine ops_nil ?_
     refine nx_next ?_
     first | refine at_if (fun _=>rfl) (fun hroom => ?_) (fun hroom => ?_) | refine at_if_bool (fun _=>rfl) (fun hroom => ?_) (fun hroom => ?_)
     ·
      exfalso; simp only [List.length_nil] at hroom; omega
     ·
      refine at_seq ?_
      refine at_region ?_
      refine op_v (p_move (fun _=>rfl)) ?_
      refine op_v (p_eql_str (fun _=>rfl) (fun _=>rfl)) ?_
      refine op_v (p_assign (fun _=>rfl)) ?_
      refine ops_nil ?_
      refine nx_next ?_
      first | refine at_if (fun _=>rfl) (fun hemp => ?_) (fun hemp => ?_) | refine at_if_bool (fun _=>rfl) (fun hemp => ?_) (fun hemp => ?_)
      ·
       refine at_seq ?_
       refine at_region ?_
       refine op_v (p_assign (fun _=>rfl)) ?_
       refine ops_nil ?_
       refine nx_slots (env' := [(4, _)]) [4] rfl (fun _=>rfl) ?_
       refine nx_next ?_
       refine at_ret ?_
       refine nx_block_ret ?_
       refine nx_thru (by intro h; cases h) ?_
       refine nx_end1 (H' := _) rfl Tryz.results13 (fun _=>rfl) (by exact ⟨rfl, rfl⟩)
      ·
       exact absurd rfl hemp

end Go.Proofs.YthbadolcncojbaaGreatDoor
