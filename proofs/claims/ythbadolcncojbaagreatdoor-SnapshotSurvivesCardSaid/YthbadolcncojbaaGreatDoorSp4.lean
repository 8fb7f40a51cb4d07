/- Package snapshot: the methods of a store. -/
import Derived.Test.YthbadolcncojbaaGreatDoorSp3
namespace Go.Proofs.YthbadolcncojbaaGreatDoor
open Go Go.RowKit Gw
set_option linter.unusedVariables false
set_option maxRecDepth 100000
attribute [local irreducible] Gw.At Gw.Nx Gw.Ops
theorem open_same (a : Nat) : DoesR Tryz.prog 23 #[.pointer (some ⟨a, 0, none⟩), .pointer (some ⟨a, 0, none⟩)] [] (.tuple #[.pointer none, .int .i64 240]) := by
 refine spec_enter Tryz.func23 rfl Tryz.ntmps23 rfl ?_
 intro u R
 refine at_slots (env' := [(0, _), (1, _)]) [0, 1] rfl (fun _=>rfl) ?_
 refine at_seq ?_
 refine at_region ?_
 refine op_v (p_assign (fun _=>rfl)) ?_
 refine op_v (p_assign (fun _=>rfl)) ?_
 refine ops_nil ?_
 refine nx_next ?_
 refine at_seq ?_
 refine at_block ?_
 refine at_seq ?_
 refine at_region ?_
 refine op_v (p_move (fun _=>rfl)) ?_
 first | refine op_v (p_eql_nil_nil Tryz.underlying26 (fun _=>rfl) (fun _=>rfl)) ?_ | refine op_v (p_eql_ptr_nil Tryz.underlying26 (fun _=>rfl) (fun _=>rfl)) ?_
 refine op_v (p_move (fun _=>rfl)) ?_
 refine ops_split_bool (t := 21) (fun _=>rfl) rfl (fun hq1 => ?_) (fun hq1 => ?_)
 ·
  cases hq1
 ·
  refine op_wg (fun _=>rfl) (p_move (fun _=>rfl)) rfl rfl ?_
  first | refine op_wg (fun _=>rfl) (p_eql_nil_nil Tryz.underlying26 (fun _=>rfl) (fun _=>rfl)) rfl rfl ?_ | refine op_wg (fun _=>rfl) (p_eql_ptr_nil Tryz.underlying26 (fun _=>rfl) (fun _=>rfl)) rfl rfl ?_
  refine op_v (p_pick_f (fun _=>rfl) (fun _=>rfl)) ?_
  refine op_v (p_assign (fun _=>rfl)) ?_
  refine ops_nil ?_
  refine nx_next ?_
  refine at_if_bool (fun _=>rfl) (fun hq2 => ?_) (fun hq2 => ?_)
  ·
   cases hq2
  ·
   refine at_seq ?_
   refine at_region ?_
   refine op_v (p_move (fun _=>rfl)) ?_
   refine op_v (p_move (fun _=>rfl)) ?_
   refine op_w (p_eql_ptr_eq Tryz.underlying26 (rfl : Tryz.prog.info? 103 = some Tryz.t103) (fun _=>rfl) (fun _=>rfl)) rfl rfl ?_
   refine op_v (p_assign (fun _=>rfl)) ?_
   refine ops_nil ?_
   refine nx_slots (env' := [(0, _), (1, _), (25, _)]) [0, 1, 25] rfl (fun _=>rfl) ?_
   refine nx_next ?_
   refine at_if_bool (fun _=>rfl) (fun hq3 => ?_) (fun hq3 => ?_)
   ·
    refine at_seq ?_
    refine at_region ?_
    refine op_v (p_assign (fun _=>rfl)) ?_
    refine op_v (p_assign (fun _=>rfl)) ?_
    refine ops_nil ?_
    refine nx_next ?_
    refine at_ret ?_
    refine nx_block_ret ?_
    refine nx_thru (by intro h; cases h) ?_
    refine nx_end2 (H' := _) rfl Tryz.results23 (fun _=>rfl) (fun _=>rfl) (by exact ⟨rfl, rfl⟩)
   ·
    cases hq3

theorem open_nil1 (v : Value) : DoesR Tryz.prog 23 #[.pointer none, v] [] (.tuple #[.pointer none, .int .i64 1]) := by
 refine spec_enter Tryz.func23 rfl Tryz.ntmps23 rfl ?_
 intro u R
 refine at_slots (env' := [(0, _), (1, _)]) [0, 1] rfl (fun _=>rfl) ?_
 refine at_seq ?_
 refine at_region ?_
 refine op_v (p_assign (fun _=>rfl)) ?_
 refine op_v (p_assign (fun _=>rfl)) ?_
 refine ops_nil ?_
 refine nx_next ?_
 refine at_seq ?_
 refine at_block ?_
 refine at_seq ?_
 refine at_region ?_
 refine op_v (p_move (fun _=>rfl)) ?_
 first | refine op_v (p_eql_nil_nil Tryz.underlying26 (fun _=>rfl) (fun _=>rfl)) ?_ | refine op_v (p_eql_ptr_nil Tryz.underlying26 (fun _=>rfl) (fun _=>rfl)) ?_
 refine op_v (p_move (fun _=>rfl)) ?_
 refine ops_split_bool (t := 21) (fun _=>rfl) rfl (fun hq1 => ?_) (fun hq1 => ?_)
 ·
  refine op_skip (fun _=>rfl) rfl ?_
  refine op_skip (fun _=>rfl) rfl ?_
  refine op_v (p_pick_t (fun _=>rfl) (fun _=>rfl)) ?_
  refine op_v (p_assign (fun _=>rfl)) ?_
  refine ops_nil ?_
  refine nx_next ?_
  refine at_then (fun _=>rfl) ?_
  refine at_seq ?_
  refine at_region ?_
  refine op_v (p_assign (fun _=>rfl)) ?_
  refine op_v (p_assign (fun _=>rfl)) ?_
  refine ops_nil ?_
  refine nx_next ?_
  refine at_ret ?_
  refine nx_block_ret ?_
  refine nx_thru (by intro h; cases h) ?_
  refine nx_end2 (H' := _) rfl Tryz.results23 (fun _=>rfl) (fun _=>rfl) (by exact ⟨rfl, rfl⟩)
 ·
  cases hq1

theorem items_spec (sp c ca o oa gen : Nat) (v : Value) (its : List (List UInt8)) (sr : List Chunk) (hrow : Row 9 v (its.map strV) sr) (hn : its.length ≤ 4194304) : Does Tryz.prog 26 #[.pointer (some ⟨sp, 0, none⟩)] [[(sp, .cells #[.pointer (some ⟨c, 0, none⟩), .pointer (some ⟨ca, 0, none⟩), .pointer (some ⟨o, 0, none⟩), .pointer (some ⟨oa, 0, none⟩), .int .i64 (gen : Int), v, .int .i64 0] 150 (0, 0))], sr] (fun r H' => ∃ sv, Row 9 r (its.map strV) sv ∧ H' = [[(sp, .cells #[.pointer (some ⟨c, 0, none⟩), .pointer (some ⟨ca, 0, none⟩), .pointer (some ⟨o, 0, none⟩), .pointer (some ⟨oa, 0, none⟩), .int .i64 (gen : Int), v, .int .i64 0] 150 (0, 0))], sr, sv]) := by
 refine spec_enter Tryz.func26 rfl Tryz.ntmps26 rfl ?_
 intro u R
 refine at_slots (env' := [(0, _)]) [0] rfl (fun _=>rfl) ?_
 refine at_seq ?_
 refine at_region ?_
 refine op_v (p_assign (fun _=>rfl)) ?_
 refine ops_nil ?_
 refine nx_next ?_
 refine at_seq ?_
 refine at_seq ?_
 refine at_region ?_
 refine op_v (p_move (fun _=>rfl)) ?_
 first | refine op_v (p_eql_nil_nil Tryz.underlying57 (fun _=>rfl) (fun _=>rfl)) ?_ | refine op_v (p_eql_ptr_nil Tryz.underlying57 (fun _=>rfl) (fun _=>rfl)) ?_
 refine ops_nil ?_
 refine nx_next ?_
 refine at_if_bool (fun _=>rfl) (fun hc1 => ?_) (fun hc1 => ?_)
 ·
  cases hc1
 ·
  refine at_skip ?_
  refine nx_next ?_
  refine at_seq ?_
  refine at_region ?_
  refine op_v (p_move (fun _=>rfl)) ?_
  refine op_v (p_nilChk (fun _=>rfl) rfl) ?_
  refine op_v (p_fieldAddr0 (off := 5) Tryz.underlying150 rfl rfl Tryz.sizeOf43 (fun _=>rfl)) ?_
  refine op_r (by repeat (first | exact Has.here _ | apply Has.there)) (p_load Tryz.isAgg43 (fun _=>rfl) (by rfl)) rfl rfl ?_
  refine ops_eff (fun _=>rfl) (fits_of rfl) rfl (w_call (vs := [_]) (fun _=>rfl) Tryz.call55 (fun _=>rfl) rfl (clone_spec _ its sr hrow (by omega)) (by repeat (first | exact Pull.nil _ | (apply Pull.cons; (focus (repeat (first | exact One.here _ _ | apply One.there))))))) ?_ no_pan
  rintro _ _ ⟨_, ⟨sv, hv, rfl⟩, rfl⟩
  refine op_v (p_assign (fun _=>rfl)) ?_
  refine ops_nil ?_
  refine nx_next ?_
  refine at_ret ?_
  refine nx_end1 (H' := _) rfl Tryz.results26 (fun _=>rfl) (by exact ⟨sv, hv, rfl⟩)

theorem gen_spec (sp c ca o oa gen : Nat) (v : Value) : DoesR Tryz.prog 27 #[.pointer (some ⟨sp, 0, none⟩)] [[(sp, .cells #[.pointer (some ⟨c, 0, none⟩), .pointer (some ⟨ca, 0, none⟩), .pointer (some ⟨o, 0, none⟩), .pointer (some ⟨oa, 0, none⟩), .int .i64 (gen : Int), v, .int .i64 0] 150 (0, 0))]] (.int .i64 (gen : Int)) := by
 refine spec_enter Tryz.func27 rfl Tryz.ntmps27 rfl ?_
 intro u R
 refine at_slots (env' := [(0, _)]) [0] rfl (fun _=>rfl) ?_
 refine at_seq ?_
 refine at_region ?_
 refine op_v (p_assign (fun _=>rfl)) ?_
 refine ops_nil ?_
 refine nx_next ?_
 refine at_seq ?_
 refine at_seq ?_
 refine at_region ?_
 refine op_v (p_move (fun _=>rfl)) ?_
 first | refine op_v (p_eql_nil_nil Tryz.underlying57 (fun _=>rfl) (fun _=>rfl)) ?_ | refine op_v (p_eql_ptr_nil Tryz.underlying57 (fun _=>rfl) (fun _=>rfl)) ?_
 refine ops_nil ?_
 refine nx_next ?_
 refine at_if_bool (fun _=>rfl) (fun hc1 => ?_) (fun hc1 => ?_)
 ·
  cases hc1
 ·
  refine at_skip ?_
  refine nx_next ?_
  refine at_seq ?_
  refine at_region ?_
  refine op_v (p_move (fun _=>rfl)) ?_
  refine op_v (p_nilChk (fun _=>rfl) rfl) ?_
  refine op_v (p_fieldAddr0 (off := 4) Tryz.underlying150 rfl rfl Tryz.sizeOf3 (fun _=>rfl)) ?_
  refine op_r (by repeat (first | exact Has.here _ | apply Has.there)) (p_load Tryz.isAgg3 (fun _=>rfl) (by rfl)) rfl rfl ?_
  refine op_v (p_assign (fun _=>rfl)) ?_
  refine ops_nil ?_
  refine nx_next ?_
  refine at_ret ?_
  refine nx_end1 (H' := _) rfl Tryz.results27 (fun _=>rfl) (by exact ⟨rfl, rfl⟩)

theorem sroom_spec (sp c ca o oa gen : Nat) (v : Value) (j : JrS) (d : DiskS) (sc sca : List Chunk) (hJ : JrR j c ca sc) (hR : DiskR d ca sca) (hz : j.sz ≤ d.vi.length) : DoesR Tryz.prog 28 #[.pointer (some ⟨sp, 0, none⟩)] [[(sp, .cells #[.pointer (some ⟨c, 0, none⟩), .pointer (some ⟨ca, 0, none⟩), .pointer (some ⟨o, 0, none⟩), .pointer (some ⟨oa, 0, none⟩), .int .i64 (gen : Int), v, .int .i64 0] 150 (0, 0))], sc, sca] (.int .i64 ((d.vi.length : Int) - (j.sz : Int))) := by
 refine spec_enter Tryz.func28 rfl Tryz.ntmps28 rfl ?_
 intro u R
 refine at_slots (env' := [(0, _)]) [0] rfl (fun _=>rfl) ?_
 refine at_seq ?_
 refine at_region ?_
 refine op_v (p_assign (fun _=>rfl)) ?_
 refine ops_nil ?_
 refine nx_next ?_
 refine at_seq ?_
 refine at_seq ?_
 refine at_region ?_
 refine op_v (p_move (fun _=>rfl)) ?_
 first | refine op_v (p_eql_nil_nil Tryz.underlying57 (fun _=>rfl) (fun _=>rfl)) ?_ | refine op_v (p_eql_ptr_nil Tryz.underlying57 (fun _=>rfl) (fun _=>rfl)) ?_
 refine ops_nil ?_
 refine nx_next ?_
 refine at_if_bool (fun _=>rfl) (fun hc1 => ?_) (fun hc1 => ?_)
 ·
  cases hc1
 ·
  refine at_skip ?_
  refine nx_next ?_
  refine at_seq ?_
  refine at_region ?_
  refine op_v (p_move (fun _=>rfl)) ?_
  refine op_v (p_nilChk (fun _=>rfl) rfl) ?_
  refine op_v (p_fieldAddr0 (off := 0) Tryz.underlying150 rfl rfl Tryz.sizeOf144 (fun _=>rfl)) ?_
  refine op_v (p_fieldAddr1 (off := 0) Tryz.underlying144 rfl rfl Tryz.sizeOf30 (fun _=>rfl)) ?_
  refine op_r (by repeat (first | exact Has.here _ | apply Has.there)) (p_load Tryz.isAgg30 (fun _=>rfl) (by rfl)) rfl rfl ?_
  refine op_e (w_callR (vs := [_]) (fun _=>rfl) Tryz.call17 (fun _=>rfl) rfl (jr_room j d c ca sc sca hJ hR hz) (by repeat (first | exact Pull.nil _ | (apply Pull.cons; (focus (repeat (first | exact One.here _ _ | apply One.there))))))) (fun _=>rfl) rfl rfl ?_
  rintro _ _ ⟨rfl, rfl⟩
  refine op_v (p_assign (fun _=>rfl)) ?_
  refine ops_nil ?_
  refine nx_next ?_
  refine at_ret ?_
  refine nx_end1 (H' := _) rfl Tryz.results28 (fun _=>rfl) (by exact ⟨rfl, rfl⟩)

theorem sappend_spec (sp c ca o oa gen : Nat) (v vl : Value) (its ls : List (List UInt8)) (sr sl sc sca : List Chunk) (j : JrS) (d : DiskS) (Tg : TypeId) (zg : Nat × Nat) (hrow : Row 9 v (its.map strV) sr) (hl : SubV vl (ls.map strV) sl) (hi : its.length ≤ 4194304) (hn : ls.length ≤ 1000000) (hb : ls.any isBig = false) (hD : JD j d) (hJ : JrR j c ca sc) (hR : DiskR d ca sca) :
    Does Tryz.prog 38 #[.pointer (some ⟨sp, 0, none⟩), vl] [[(sp, .cells #[.pointer (some ⟨c, 0, none⟩), .pointer (some ⟨ca, 0, none⟩), .pointer (some ⟨o, 0, none⟩), .pointer (some ⟨oa, 0, none⟩), .int .i64 (gen : Int), v, .int .i64 0] 150 (0, 0))], sr, sc, sca, sl, [(4, .cells (kTab.map u32v).toArray Tg zg)]] (fun r H' => ∃ (e : Int) (j1 : JrS) (d1 : DiskS) (v' : Value) (sr' sc' sca' : List Chunk), r = .int .i64 e ∧ JD j1 d1 ∧ d1.vi.length = d.vi.length ∧
      ((d.vi.length < j.sz + (outL j.h (ls.map itm)).length ∧ e = 231 ∧ j1 = j ∧ d1 = d ∧ v' = v ∧ sr' = sr) ∨ (j.sz + (outL j.h (ls.map itm)).length ≤ d.vi.length ∧ e = 0 ∧ j1.rs = j.rs ++ ls.map itm ∧ j1.sz = j.sz + (outL j.h (ls.map itm)).length ∧ Row 9 v' ((its ++ ls).map strV) sr')) ∧
      JrR j1 c ca sc' ∧ DiskR d1 ca sca' ∧ H' = [[(sp, .cells #[.pointer (some ⟨c, 0, none⟩), .pointer (some ⟨ca, 0, none⟩), .pointer (some ⟨o, 0, none⟩), .pointer (some ⟨oa, 0, none⟩), .int .i64 (gen : Int), v', .int .i64 0] 150 (0, 0))], sr', sc', sca', sl, [(4, .cells (kTab.map u32v).toArray Tg zg)]]) := by
 have hml : maxLen = 9223372036854775807 := rfl
 have hsh := big_none hb
 have hish : ∀ r ∈ ls.map itm, r.length ≤ 65536 := by
   intro r hr
   obtain ⟨x, hx, rfl⟩ := List.mem_map.1 hr
   have := hsh x hx
   unfold itm; rw [List.length_cons]; omega
 refine spec_enter Tryz.func38 rfl Tryz.ntmps38 rfl ?_
 intro u R
 refine at_slots (env' := [(0, _), (1, _)]) [0, 1] rfl (fun _=>rfl) ?_
 refine at_seq ?_
 refine at_region ?_
 refine op_v (p_assign (fun _=>rfl)) ?_
 refine ops_nil ?_
 refine nx_next ?_
 refine at_seq ?_
 refine at_seq ?_
 refine at_region ?_
 refine op_v (p_move (fun _=>rfl)) ?_
 first | refine op_v (p_eql_nil_nil Tryz.underlying57 (fun _=>rfl) (fun _=>rfl)) ?_ | refine op_v (p_eql_ptr_nil Tryz.underlying57 (fun _=>rfl) (fun _=>rfl)) ?_
 refine ops_nil ?_
 refine nx_next ?_
 refine at_if_bool (fun _=>rfl) (fun hc1 => ?_) (fun hc1 => ?_)
 ·
  cases hc1
 ·
  refine at_skip ?_
  refine nx_next ?_
  refine at_seq ?_
  refine at_region ?_
  refine op_v (p_move (fun _=>rfl)) ?_
  refine ops_eff (fun _=>rfl) (fits_of rfl) rfl (w_call (vs := [_]) (fun _=>rfl) Tryz.call84 (fun _=>rfl) rfl (marked_sub hl hn hb) (by repeat (first | exact Pull.nil _ | (apply Pull.cons; (focus (repeat (first | exact One.here _ _ | apply One.there))))))) ?_ no_pan
  rintro _ _ ⟨_, ⟨h, rfl, rfl⟩, rfl⟩
  refine op_v (p_move (fun _=>rfl)) ?_
  refine op_v (p_extract (fun _=>rfl) rfl) ?_
  refine op_v (p_extract (fun _=>rfl) rfl) ?_
  refine op_v (p_assign (fun _=>rfl)) ?_
  refine op_v (p_assign (fun _=>rfl)) ?_
  refine ops_nil ?_
  refine nx_next ?_
  refine at_seq ?_
  refine at_block ?_
  refine at_seq ?_
  refine at_region ?_
  refine op_v (p_move (fun _=>rfl)) ?_
  first | refine op_v (p_not_dec (fun _=>rfl)) ?_ | refine op_v (p_not (fun _=>rfl)) ?_
  refine op_v (p_assign (fun _=>rfl)) ?_
  refine ops_nil ?_
  refine nx_slots (env' := [(0, _), (1, _), (5, _), (15, _)]) [0, 1, 5, 15] rfl (fun _=>rfl) ?_
  refine nx_next ?_
  refine at_if_bool (fun _=>rfl) (fun hq => ?_) (fun hq => ?_)
  ·
   cases hq
  ·
   refine at_seq ?_
   refine at_region ?_
   refine op_v (p_move (fun _=>rfl)) ?_
   refine op_v (p_nilChk (fun _=>rfl) rfl) ?_
   refine op_v (p_fieldAddr0 (off := 6) Tryz.underlying150 rfl rfl Tryz.sizeOf27 (fun _=>rfl)) ?_
   refine op_r (by repeat (first | exact Has.here _ | apply Has.there)) (p_load Tryz.isAgg27 (fun _=>rfl) (by rfl)) rfl rfl ?_
   first | refine op_v (p_neq_nat (n := 0) (fun _=>rfl) (fun _=>rfl)) ?_ | refine op_v (p_neq (fun _=>rfl) (fun _=>rfl)) ?_
   refine op_v (p_assign (fun _=>rfl)) ?_
   refine ops_nil ?_
   refine nx_next ?_
   first | refine at_if (fun _=>rfl) (fun hq2 => ?_) (fun hq2 => ?_) | refine at_if_bool (fun _=>rfl) (fun hq2 => ?_) (fun hq2 => ?_)
   ·
    exact absurd rfl hq2
   ·
    refine at_skip ?_
    refine nx_block_normal ?_
    refine nx_next ?_
    refine at_seq ?_
    refine at_region ?_
    refine op_v (p_move (fun _=>rfl)) ?_
    refine op_v (p_nilChk (fun _=>rfl) rfl) ?_
    refine op_v (p_fieldAddr0 (off := 0) Tryz.underlying150 rfl rfl Tryz.sizeOf144 (fun _=>rfl)) ?_
    refine op_v (p_fieldAddr1 (off := 0) Tryz.underlying144 rfl rfl Tryz.sizeOf30 (fun _=>rfl)) ?_
    refine op_r (by repeat (first | exact Has.here _ | apply Has.there)) (p_load Tryz.isAgg30 (fun _=>rfl) (by rfl)) rfl rfl ?_
    refine op_v (p_move (fun _=>rfl)) ?_
    refine ops_eff (fun _=>rfl) (fits_of rfl) rfl (w_call (vs := [_, _]) (fun _=>rfl) Tryz.call13 (fun _=>rfl) rfl (jd_append j d c ca sc _ sca _ (ls.map itm) Tg zg hD hJ hR (row_new _ h ((ls.map itm).map strV) ls.length (by simp) (by omega)) hish (by rw [List.length_map]; exact hn)) (by repeat (first | exact Pull.nil _ | (apply Pull.cons; (focus (repeat (first | exact One.here _ _ | apply One.there))))))) ?_ no_pan
    rintro _ _ ⟨_, ⟨e1, j1, d1, sj1, sd1, rfl, hD1, hv1, ho1, hJ1, hR1, rfl⟩, rfl⟩
    refine op_v (p_assign (fun _=>rfl)) ?_
    refine ops_nil ?_
    refine nx_slots (env' := [(0, _), (1, _), (7, _)]) [0, 1, 7] rfl (fun _=>rfl) ?_
    refine nx_next ?_
    refine at_seq ?_
    refine at_seq ?_
    refine at_region ?_
    refine op_v (p_move (fun _=>rfl)) ?_
    first | refine op_v (p_eql_nat (n := 0) (fun _=>rfl) (fun _=>rfl)) ?_ | refine op_v (p_eql (fun _=>rfl) (fun _=>rfl)) ?_
    refine ops_nil ?_
    refine nx_next ?_
    first | refine at_if (fun _=>rfl) (fun he => ?_) (fun he => ?_) | refine at_if_bool (fun _=>rfl) (fun he => ?_) (fun he => ?_)
    ·
     have hok := ho1.resolve_left (fun h => by have := h.2.1; omega)
     refine at_region ?_
     refine op_v (p_move (fun _=>rfl)) ?_
     refine op_v (p_move (fun _=>rfl)) ?_
     refine op_v (p_nilChk (fun _=>rfl) rfl) ?_
     refine op_v (p_fieldAddr0 (off := 5) Tryz.underlying150 rfl rfl Tryz.sizeOf43 (fun _=>rfl)) ?_
     refine op_r (by repeat (first | exact Has.here _ | apply Has.there)) (p_load Tryz.isAgg43 (fun _=>rfl) (by rfl)) rfl rfl ?_
     refine op_v (p_move (fun _=>rfl)) ?_
     refine op_e (w_append_sub (by_ := 16) Tryz.underlying43 (rfl : Tryz.prog.info? 9 = some Tryz.t9) rfl rfl rfl rfl (fun _=>rfl) (hrow) (fun _=>rfl) (hl) (by repeat (first | exact One.here _ _ | apply One.there)) (by repeat (first | exact One.here _ _ | apply One.there)) (by simp [Value.oneCell', strV]) (by (simp only [List.length_map]; omega)) (by (simp only [List.length_map]; omega))) (fun _=>rfl) rfl rfl ?_
     rintro _ _ ⟨sq, hrq, rfl⟩
     rw [← List.map_append] at hrq
     obtain ⟨gq, cq, rfl⟩ := hrq.form
     refine op_v (p_nilChk (fun _=>rfl) rfl) ?_
     refine op_v (p_fieldAddr0 (off := 5) Tryz.underlying150 rfl rfl Tryz.sizeOf43 (fun _=>rfl)) ?_
     refine op_e (w_store Tryz.sizeOf43 (fun _=>rfl) (fun _=>rfl) rfl (by repeat (first | exact Upd.here _ | apply Upd.there)) (by rfl) (by first | decide | exact Nat.le_refl _ | (simp; done) | (simp; omega)) (by exact free_zero _)) (fun _=>rfl) rfl rfl ?_
     rintro _ _ ⟨rfl, rfl⟩
     refine ops_nil ?_
     refine nx_next ?_
     refine at_seq ?_
     refine at_region ?_
     refine op_v (p_move (fun _=>rfl)) ?_
     refine op_v (p_assign (fun _=>rfl)) ?_
     refine ops_nil ?_
     refine nx_slots (env' := [(4, _)]) [4] rfl (fun _=>rfl) ?_
     refine nx_next ?_
     refine at_ret ?_
     refine nx_end1 (H' := _) rfl Tryz.results38 (fun _=>rfl) (by first | exact ⟨_, j1, d1, _, _, _, _, rfl, hD1, hv1, .inr ⟨hok.1, hok.2.1, hok.2.2.1, hok.2.2.2, hrq⟩, hJ1, hR1, rfl⟩ | exact ⟨_, j1, d1, _, _, _, _, rfl, hD1, hv1, .inl ⟨hfl.1, hfl.2.1, hfl.2.2.1, hfl.2.2.2, rfl, rfl⟩, hJ1, hR1, rfl⟩)
    ·
     have hfl := ho1.resolve_right (fun h => he h.2.1)
     refine at_skip ?_
     refine nx_next ?_
     refine at_seq ?_
     refine at_region ?_
     refine op_v (p_move (fun _=>rfl)) ?_
     refine op_v (p_assign (fun _=>rfl)) ?_
     refine ops_nil ?_
     refine nx_next ?_
     refine at_ret ?_
     refine nx_end1 (H' := _) rfl Tryz.results38 (fun _=>rfl) (by first | exact ⟨_, j1, d1, _, _, _, _, rfl, hD1, hv1, .inr ⟨hok.1, hok.2.1, hok.2.2.1, hok.2.2.2, hrq⟩, hJ1, hR1, rfl⟩ | exact ⟨_, j1, d1, _, _, _, _, rfl, hD1, hv1, .inl ⟨hfl.1, hfl.2.1, hfl.2.2.1, hfl.2.2.2, rfl, rfl⟩, hJ1, hR1, rfl⟩)

theorem scompact_spec (sp c ca o oa gen : Nat) (v vl : Value) (its ls : List (List UInt8)) (sr sl so soa : List Chunk) (j : JrS) (d : DiskS) (pa : Addr) (Tx Tg : TypeId) (zx zg : Nat × Nat) (hrow : Row 9 v (its.map strV) sr) (hl : Row 9 vl (ls.map strV) sl) (hn : ls.length ≤ 900000) (hb : ls.any isBig = false) (hg : gen < 1000000000) (hD : JD j d) (hJ : JrR j o oa so) (hR : DiskR d oa soa) :
    Does Tryz.prog 36 #[.pointer (some ⟨sp, 0, none⟩), vl] [[(sp, .cells #[.pointer (some ⟨c, 0, none⟩), .pointer (some ⟨ca, 0, none⟩), .pointer (some ⟨o, 0, none⟩), .pointer (some ⟨oa, 0, none⟩), .int .i64 (gen : Int), v, .int .i64 0] 150 (0, 0))], sr, so, soa, sl, [(4, .cells (kTab.map u32v).toArray Tg zg)], [(0, .cells #[.iface 299 (.pointer (some pa))] Tx zx)]] (fun r H' => ∃ (e : Int) (j1 : JrS) (d1 : DiskS) (np : Nat) (so' soa' : List Chunk), r = .int .i64 e ∧ JD j1 d1 ∧ d1.vi.length = d.vi.length ∧ JrR j1 np oa so' ∧ DiskR d1 oa soa' ∧
      ((d.vi.length < (outL zero32 (recsOf (gen + 1) ls)).length ∧ e = 231 ∧ j1 = j0 ∧ H' = [[(sp, .cells #[.pointer (some ⟨c, 0, none⟩), .pointer (some ⟨ca, 0, none⟩), .pointer (some ⟨np, 0, none⟩), .pointer (some ⟨oa, 0, none⟩), .int .i64 (gen : Int), v, .int .i64 0] 150 (0, 0))], sr, so', soa', sl, [(4, .cells (kTab.map u32v).toArray Tg zg)], [(0, .cells #[.iface 299 (.pointer (some pa))] Tx zx)]]) ∨
       ((outL zero32 (recsOf (gen + 1) ls)).length ≤ d.vi.length ∧ e = 0 ∧ j1.rs = recsOf (gen + 1) ls ∧ j1.sz = (outL zero32 (recsOf (gen + 1) ls)).length ∧ ∃ v' sr', Row 9 v' (ls.map strV) sr' ∧ H' = [[(sp, .cells #[.pointer (some ⟨np, 0, none⟩), .pointer (some ⟨oa, 0, none⟩), .pointer (some ⟨c, 0, none⟩), .pointer (some ⟨ca, 0, none⟩), .int .i64 ((gen + 1 : Nat) : Int), v', .int .i64 0] 150 (0, 0))], sr', so', soa', sl, [(4, .cells (kTab.map u32v).toArray Tg zg)], [(0, .cells #[.iface 299 (.pointer (some pa))] Tx zx)]]))) := by
 have hml : maxLen = 9223372036854775807 := rfl
 have hsh := big_none hb
 have hhl := hdr_len (gen + 1) (by omega)
 have hish : ∀ r ∈ recsOf (gen + 1) ls, r.length ≤ 65536 := by
   intro r hr
   unfold recsOf at hr
   rcases List.mem_cons.1 hr with rfl | hr
   · omega
   · obtain ⟨x, hx, rfl⟩ := List.mem_map.1 hr
     have := hsh x hx
     unfold itm; rw [List.length_cons]; omega
 refine spec_enter Tryz.func36 rfl Tryz.ntmps36 rfl ?_
 intro u R
 refine at_slots (env' := [(0, _), (1, _)]) [0, 1] rfl (fun _=>rfl) ?_
 refine at_seq ?_
 refine at_region ?_
 refine op_v (p_assign (fun _=>rfl)) ?_
 refine ops_nil ?_
 refine nx_next ?_
 refine at_seq ?_
 refine at_seq ?_
 refine at_region ?_
 refine op_v (p_move (fun _=>rfl)) ?_
 first | refine op_v (p_eql_nil_nil Tryz.underlying57 (fun _=>rfl) (fun _=>rfl)) ?_ | refine op_v (p_eql_ptr_nil Tryz.underlying57 (fun _=>rfl) (fun _=>rfl)) ?_
 refine ops_nil ?_
 refine nx_next ?_
 refine at_if_bool (fun _=>rfl) (fun hc1 => ?_) (fun hc1 => ?_)
 ·
  cases hc1
 ·
  refine at_skip ?_
  refine nx_next ?_
  refine at_seq ?_
  refine at_region ?_
  refine op_v (p_move (fun _=>rfl)) ?_
  refine ops_eff (fun _=>rfl) (fits_of rfl) rfl (w_call (vs := [_]) (fun _=>rfl) Tryz.call84 (fun _=>rfl) rfl (marked_row hl (by omega) hb) (by repeat (first | exact Pull.nil _ | (apply Pull.cons; (focus (repeat (first | exact One.here _ _ | apply One.there))))))) ?_ no_pan
  rintro _ _ ⟨_, ⟨h, rfl, rfl⟩, rfl⟩
  refine op_v (p_move (fun _=>rfl)) ?_
  refine op_v (p_extract (fun _=>rfl) rfl) ?_
  refine op_v (p_extract (fun _=>rfl) rfl) ?_
  refine op_v (p_assign (fun _=>rfl)) ?_
  refine op_v (p_assign (fun _=>rfl)) ?_
  refine ops_nil ?_
  refine nx_next ?_
  refine at_seq ?_
  refine at_block ?_
  refine at_seq ?_
  refine at_region ?_
  refine op_v (p_move (fun _=>rfl)) ?_
  first | refine op_v (p_not_dec (fun _=>rfl)) ?_ | refine op_v (p_not (fun _=>rfl)) ?_
  refine op_v (p_move (fun _=>rfl)) ?_
  refine ops_split_bool (t := 19) (fun _=>rfl) rfl (fun hq => ?_) (fun hq => ?_)
  ·
   cases hq
  ·
   refine op_wg (fun _=>rfl) (p_move (fun _=>rfl)) rfl rfl ?_
   refine op_wg (fun _=>rfl) (p_nilChk (fun _=>rfl) rfl) rfl rfl ?_
   refine op_wg (fun _=>rfl) (p_fieldAddr0 (off := 4) Tryz.underlying150 rfl rfl Tryz.sizeOf3 (fun _=>rfl)) rfl rfl ?_
   refine op_rg (fun _=>rfl) (by repeat (first | exact Has.here _ | apply Has.there)) (p_load Tryz.isAgg3 (fun _=>rfl) (by rfl)) rfl rfl ?_
   first | refine op_wg (fun _=>rfl) (p_geq_nat (n := 1000000000) (fun _=>rfl) (fun _=>rfl)) rfl rfl ?_ | refine op_wg (fun _=>rfl) (p_geq (fun _=>rfl) (fun _=>rfl)) rfl rfl ?_
   refine op_v (p_pick_f (fun _=>rfl) (fun _=>rfl)) ?_
   refine op_v (p_assign (fun _=>rfl)) ?_
   refine ops_nil ?_
   refine nx_slots (env' := [(0, _), (1, _), (5, _), (16, _)]) [0, 1, 5, 16] rfl (fun _=>rfl) ?_
   refine nx_next ?_
   first | refine at_if (fun _=>rfl) (fun hq9 => ?_) (fun hq9 => ?_) | refine at_if_bool (fun _=>rfl) (fun hq9 => ?_) (fun hq9 => ?_)
   ·
    exfalso; omega
   ·
    refine at_seq ?_
    refine at_region ?_
    refine op_v (p_move (fun _=>rfl)) ?_
    refine op_v (p_nilChk (fun _=>rfl) rfl) ?_
    refine op_v (p_fieldAddr0 (off := 6) Tryz.underlying150 rfl rfl Tryz.sizeOf27 (fun _=>rfl)) ?_
    refine op_r (by repeat (first | exact Has.here _ | apply Has.there)) (p_load Tryz.isAgg27 (fun _=>rfl) (by rfl)) rfl rfl ?_
    first | refine op_v (p_neq_nat (n := 0) (fun _=>rfl) (fun _=>rfl)) ?_ | refine op_v (p_neq (fun _=>rfl) (fun _=>rfl)) ?_
    refine op_v (p_assign (fun _=>rfl)) ?_
    refine ops_nil ?_
    refine nx_next ?_
    first | refine at_if (fun _=>rfl) (fun hq2 => ?_) (fun hq2 => ?_) | refine at_if_bool (fun _=>rfl) (fun hq2 => ?_) (fun hq2 => ?_)
    ·
     exact absurd rfl hq2
    ·
     refine at_skip ?_
     refine nx_block_normal ?_
     refine nx_next ?_
     refine at_seq ?_
     refine at_region ?_
     refine op_v (p_move (fun _=>rfl)) ?_
     refine op_v (p_nilChk (fun _=>rfl) rfl) ?_
     refine op_v (p_fieldAddr0 (off := 2) Tryz.underlying150 rfl rfl Tryz.sizeOf144 (fun _=>rfl)) ?_
     refine op_r (by repeat (first | exact Has.here _ | apply Has.there)) (p_load_agg (cs := #[_, _]) Tryz.isAgg144 Tryz.sizeOf144 (fun _=>rfl) (by first | decide | exact Nat.le_refl _ | (simp; done) | (simp; omega)) (by rfl)) rfl rfl ?_
     refine ops_eff (fun _=>rfl) (fits_of rfl) rfl (w_call (vs := [_]) (fun _=>rfl) Tryz.call85 (fun _=>rfl) rfl (erase_spec j d o oa so soa pa Tx Tg zx zg hD hJ hR) (by repeat (first | exact Pull.nil _ | (apply Pull.cons; (focus (repeat (first | exact One.here _ _ | apply One.there))))))) ?_ no_pan
     rintro _ _ ⟨_, ⟨np, sn, d2, sd2, rfl, g1, g2, g3, g4, rfl⟩, rfl⟩
     refine op_v (p_move (fun _=>rfl)) ?_
     refine op_v (p_extract (fun _=>rfl) rfl) ?_
     refine op_v (p_extract (fun _=>rfl) rfl) ?_
     refine op_e (w_alloc Tryz.zeroValue144 (cs := #[_, _]) rfl) (fun _=>rfl) rfl rfl ?_
     rintro _ _ ⟨bf, rfl, rfl⟩
     refine op_e (w_store_agg Tryz.sizeOf144 (fun _=>rfl) (fun _=>rfl) (by first | (simp [Value.oneCell']; done) | (simp [Value.oneCell', Value.cells]; done)) (by repeat (first | exact Upd.here _ | apply Upd.there)) (by exact (rfl : _ = (#[.pointer (some ⟨np, 0, none⟩), .pointer (some ⟨oa, 0, none⟩)] : Array Value))) (by first | rfl | (simp; done)) (by first | decide | exact Nat.le_refl _ | (simp; done) | (simp; omega)) (by exact free_zero _)) (fun _=>rfl) rfl rfl ?_
     rintro _ _ ⟨rfl, rfl⟩
     refine op_v (p_assign (fun _=>rfl)) ?_
     refine ops_nil ?_
     refine nx_slots (env' := [(0, _), (1, _), (5, _), (7, _), (8, _)]) [0, 1, 5, 7, 8] rfl (fun _=>rfl) ?_
     refine nx_next ?_
     refine at_seq ?_
     refine at_seq ?_
     refine at_region ?_
     refine op_v (p_move (fun _=>rfl)) ?_
     first | refine op_v (p_eql_nat (n := 0) (fun _=>rfl) (fun _=>rfl)) ?_ | refine op_v (p_eql (fun _=>rfl) (fun _=>rfl)) ?_
     refine ops_nil ?_
     refine nx_next ?_
     first | refine at_if (fun _=>rfl) (fun hq3 => ?_) (fun hq3 => ?_) | refine at_if_bool (fun _=>rfl) (fun hq3 => ?_) (fun hq3 => ?_)
     ·
      refine at_seq ?_
      refine at_region ?_
      refine op_v (p_move (fun _=>rfl)) ?_
      refine op_r (by repeat (first | exact Has.here _ | apply Has.there)) (p_load_agg (cs := #[_, _]) Tryz.isAgg144 Tryz.sizeOf144 (fun _=>rfl) (by first | decide | exact Nat.le_refl _ | (simp; done) | (simp; omega)) (by rfl)) rfl rfl ?_
      refine op_v (p_nilChk (fun _=>rfl) rfl) ?_
      refine op_v (p_fieldAddr0 (off := 2) Tryz.underlying150 rfl rfl Tryz.sizeOf144 (fun _=>rfl)) ?_
      refine op_e (w_store_agg Tryz.sizeOf144 (fun _=>rfl) (fun _=>rfl) (by first | (simp [Value.oneCell']; done) | (simp [Value.oneCell', Value.cells]; done)) (by repeat (first | exact Upd.here _ | apply Upd.there)) (by exact (rfl : _ = (#[.pointer (some ⟨c, 0, none⟩), .pointer (some ⟨ca, 0, none⟩), .pointer (some ⟨np, 0, none⟩), .pointer (some ⟨oa, 0, none⟩), .int .i64 (gen : Int), v, .int .i64 0] : Array Value))) (by first | rfl | (simp; done)) (by first | decide | exact Nat.le_refl _ | (simp; done) | (simp; omega)) (by exact free_zero _)) (fun _=>rfl) rfl rfl ?_
      rintro _ _ ⟨rfl, rfl⟩
      refine ops_nil ?_
      refine nx_next ?_
      refine at_draw (n := 13) (0 :: 1 :: 0 :: 0 :: 8 :: 24 :: 56 :: 120 :: 248 :: 504 :: 1020 :: 2047 :: 4095 :: []) 3840 (by kernel_rfl) (by kernel_rfl) rfl ?_
      refine lin_v (D' := 1) 0 (p_fieldAddr0 (off := 0) Tryz.underlying144 rfl rfl Tryz.sizeOf30 (fun _=>rfl)) ?_
      refine lin_r (D' := 3) 1 rfl rfl rfl (by repeat (first | exact Has.here _ | apply Has.there)) (p_load Tryz.isAgg30 (fun _=>rfl) (by rfl)) ?_
      refine lin_v (D' := 7) 2 (p_move (fun _=>rfl)) ?_
      refine lin_v (D' := 15) 3 (p_move (fun _=>rfl)) ?_
      refine lin_v (D' := 31) 4 (p_nilChk (fun _=>rfl) rfl) ?_
      refine lin_v (D' := 63) 5 (p_fieldAddr0 (off := 4) Tryz.underlying150 rfl rfl Tryz.sizeOf3 (fun _=>rfl)) ?_
      refine lin_r (D' := 127) 6 rfl rfl rfl (by repeat (first | exact Has.here _ | apply Has.there)) (p_load Tryz.isAgg3 (fun _=>rfl) (by rfl)) ?_
      first | (refine lin_v (D' := 255) 7 (p_add_nat (n := 1) (fun _=>rfl) (fun _=>rfl) ?_) ?_; (focus (omega))) | (refine lin_v (D' := 255) 7 (p_add (fun _=>rfl) (fun _=>rfl) (IntWalk.i64_in _ ?_)) ?_; (focus (omega)))
      refine lin_eff (l := [8]) (by kernel_rfl) (by kernel_rfl) ?_
      refine each_cons (m := 248) (D' := 511) (is := [6, 1]) (bs := [false, true]) (T' := [(1, (_, _))]) rfl (fun _=>rfl) rfl rfl rfl (by kernel_rfl) rfl (w_callR (vs := [_]) (fun _=>rfl) Tryz.call70 (fun _=>rfl) rfl (header_spec (gen + 1) (by omega)) (by repeat (first | exact Pull.nil _ | (apply Pull.cons; (focus (repeat (first | exact One.here _ _ | apply One.there))))))) ?hk_1 (fun _ _ h => h.elim) ?hl_1
      case hk_1 =>
       rintro _ _ ⟨rfl, rfl⟩
       refine ⟨keep_cons (by repeat (first | exact Has.here _ | apply Has.there)) (keep_nil), ?_⟩
       refine lin_eff (l := [9]) (by kernel_rfl) (by kernel_rfl) ?_
       refine each_cons (m := 504) (D' := 1023) (is := [1]) (bs := [true]) (T' := [(1, (_, _))]) rfl (fun _=>rfl) rfl rfl rfl (by kernel_rfl) rfl (w_buildSlice (vs := [_]) (cs := [_]) Tryz.underlying43 Tryz.sizeOf9 Tryz.zeroValue9 (fun _=>rfl) rfl rfl rfl rfl rfl) ?hk_2 (fun _ _ h => h.elim) ?hl_2
       case hk_2 =>
        rintro _ _ ⟨gq, rfl, rfl⟩
        refine ⟨keep_cons (by repeat (first | exact Has.here _ | apply Has.there)) (keep_nil), ?_⟩
        refine lin_eff (l := [10]) (by kernel_rfl) (by kernel_rfl) ?_
        refine each_cons (m := 1020) (D' := 2047) (is := [1]) (bs := [true]) (T' := [(1, (_, _))]) rfl (fun _=>rfl) rfl rfl rfl (by kernel_rfl) rfl (w_call (vs := [_, _, _]) (fun _=>rfl) Tryz.call86 (fun _=>rfl) rfl (insert_spec h gq ls.length (hdr (gen + 1)) (ls.map itm) (by simp) (by omega)) (by repeat (first | exact Pull.nil _ | (apply Pull.cons; (focus (repeat (first | exact One.here _ _ | apply One.there))))))) ?hk_3 no_pan ?hl_3
        case hk_3 =>
         rintro _ _ ⟨_, ⟨si, hi, rfl⟩, rfl⟩
         refine ⟨keep_cons (by repeat (first | exact Has.here _ | apply Has.there)) (keep_nil), ?_⟩
         obtain ⟨gi, ci, rfl⟩ := hi.form
         refine lin_eff (l := [11]) (by kernel_rfl) (by kernel_rfl) ?_
         refine each_cons (m := 2047) (D' := 4095) (is := [1]) (bs := [false]) (T' := []) rfl (fun _=>rfl) rfl rfl rfl (by kernel_rfl) rfl (w_call (vs := [_, _]) (fun _=>rfl) Tryz.call13 (fun _=>rfl) rfl (jd_append j0 d2 np oa sn si sd2 _ (recsOf (gen + 1) ls) Tg zg g1 g3 g4 hi hish (by unfold recsOf; simp; omega)) (by repeat (first | exact Pull.nil _ | (apply Pull.cons; (focus (repeat (first | exact One.here _ _ | apply One.there))))))) ?hk_4 no_pan ?hl_4
         case hk_4 =>
          rintro _ _ ⟨_, ⟨e1, j1, d1, sj1, sd1, rfl, hD1, hv1, ho1, hJ1, hR1, rfl⟩, rfl⟩
          refine ⟨keep_nil, ?_⟩
          simp only [Nat.zero_add, List.nil_append] at ho1
          refine lin_v (D' := 8191) 12 (p_assign (fun _=>rfl)) ?_
          refine lin_nil ?_
          refine nx_slots (env' := [(0, _), (1, _), (7, _), (8, _)]) [0, 1, 7, 8] rfl (fun _=>rfl) ?_
          refine nx_next ?_
          refine at_seq ?_
          refine at_seq ?_
          refine at_region ?_
          refine op_v (p_move (fun _=>rfl)) ?_
          first | refine op_v (p_neq_nat (n := 0) (fun _=>rfl) (fun _=>rfl)) ?_ | refine op_v (p_neq (fun _=>rfl) (fun _=>rfl)) ?_
          refine ops_nil ?_
          refine nx_next ?_
          first | refine at_if (fun _=>rfl) (fun he => ?_) (fun he => ?_) | refine at_if_bool (fun _=>rfl) (fun he => ?_) (fun he => ?_)
          ·
           have hfl := ho1.resolve_right (fun h => he h.2.1)
           refine at_seq ?_
           refine at_seq ?_
           refine at_region ?_
           refine op_v (p_move (fun _=>rfl)) ?_
           first | refine op_v (p_neq_nat (n := 231) (fun _=>rfl) (fun _=>rfl)) ?_ | refine op_v (p_neq (fun _=>rfl) (fun _=>rfl)) ?_
           refine ops_nil ?_
           refine nx_next ?_
           first | refine at_if (fun _=>rfl) (fun he2 => ?_) (fun he2 => ?_) | refine at_if_bool (fun _=>rfl) (fun he2 => ?_) (fun he2 => ?_)
           ·
            exfalso; have := hfl.2.1; omega
           ·
            refine at_skip ?_
            refine nx_next ?_
            refine at_seq ?_
            refine at_region ?_
            refine op_v (p_move (fun _=>rfl)) ?_
            refine op_v (p_assign (fun _=>rfl)) ?_
            refine ops_nil ?_
            refine nx_next ?_
            refine at_ret ?_
            refine nx_thru (by intro h; cases h) ?_
            refine nx_end1 (H' := _) rfl Tryz.results36 (fun _=>rfl) (by exact ⟨_, j1, d1, np, _, _, rfl, hD1, by omega, hJ1, hR1, .inl ⟨by rw [← g2]; exact hfl.1, hfl.2.1, hfl.2.2.1, rfl⟩⟩)
          ·
           have hok := ho1.resolve_left (fun h => he (by rw [h.2.1]; decide))
           refine at_skip ?_
           refine nx_next ?_
           refine at_seq ?_
           refine at_draw (n := 13) (0 :: 0 :: 0 :: 0 :: 8 :: 24 :: 56 :: 125 :: 253 :: 509 :: 1023 :: 2047 :: 4095 :: []) 4608 (by kernel_rfl) (by kernel_rfl) rfl ?_
           refine lin_v (D' := 1) 0 (p_move (fun _=>rfl)) ?_
           refine lin_v (D' := 3) 1 (p_move (fun _=>rfl)) ?_
           refine lin_r (D' := 7) 2 rfl rfl rfl (by repeat (first | exact Has.here _ | apply Has.there)) (p_load_agg (cs := #[_, _]) Tryz.isAgg144 Tryz.sizeOf144 (fun _=>rfl) (by first | decide | exact Nat.le_refl _ | (simp; done) | (simp; omega)) (by rfl)) ?_
           refine lin_v (D' := 15) 3 (p_move (fun _=>rfl)) ?_
           refine lin_v (D' := 31) 4 (p_nilChk (fun _=>rfl) rfl) ?_
           refine lin_v (D' := 63) 5 (p_fieldAddr0 (off := 0) Tryz.underlying150 rfl rfl Tryz.sizeOf144 (fun _=>rfl)) ?_
           refine lin_r (D' := 127) 6 rfl rfl rfl (by repeat (first | exact Has.here _ | apply Has.there)) (p_load_agg (cs := #[_, _]) Tryz.isAgg144 Tryz.sizeOf144 (fun _=>rfl) (by first | decide | exact Nat.le_refl _ | (simp; done) | (simp; omega)) (by rfl)) ?_
           refine lin_v (D' := 255) 7 (p_nilChk (fun _=>rfl) rfl) ?_
           refine lin_v (D' := 511) 8 (p_fieldAddr0 (off := 0) Tryz.underlying150 rfl rfl Tryz.sizeOf144 (fun _=>rfl)) ?_
           refine lin_eff (l := [9]) (by kernel_rfl) (by kernel_rfl) ?_
           refine each_cons (m := 509) (D' := 1023) (is := [6, 2]) (bs := [false, false]) (T' := []) rfl (fun _=>rfl) rfl rfl rfl (by kernel_rfl) rfl (w_store_agg Tryz.sizeOf144 (fun _=>rfl) (fun _=>rfl) (by first | (simp [Value.oneCell']; done) | (simp [Value.oneCell', Value.cells]; done)) (by repeat (first | exact Upd.here _ | apply Upd.there)) (by exact (rfl : _ = (#[.pointer (some ⟨np, 0, none⟩), .pointer (some ⟨oa, 0, none⟩), .pointer (some ⟨np, 0, none⟩), .pointer (some ⟨oa, 0, none⟩), .int .i64 (gen : Int), v, .int .i64 0] : Array Value))) (by first | rfl | (simp; done)) (by first | decide | exact Nat.le_refl _ | (simp; done) | (simp; omega)) (by exact free_zero _)) ?hk_6 (fun _ _ h => h.elim) ?hl_6
           case hk_6 =>
            rintro _ _ ⟨rfl, rfl⟩
            refine ⟨keep_nil, ?_⟩
            refine lin_v (D' := 2047) 10 (p_nilChk (fun _=>rfl) rfl) ?_
            refine lin_v (D' := 4095) 11 (p_fieldAddr0 (off := 2) Tryz.underlying150 rfl rfl Tryz.sizeOf144 (fun _=>rfl)) ?_
            refine lin_eff (l := [12]) (by kernel_rfl) (by kernel_rfl) ?_
            refine each_cons (m := 4095) (D' := 8191) (is := []) (bs := []) (T' := []) rfl (fun _=>rfl) rfl rfl rfl (by kernel_rfl) rfl (w_store_agg Tryz.sizeOf144 (fun _=>rfl) (fun _=>rfl) (by first | (simp [Value.oneCell']; done) | (simp [Value.oneCell', Value.cells]; done)) (by repeat (first | exact Upd.here _ | apply Upd.there)) (by exact (rfl : _ = (#[.pointer (some ⟨np, 0, none⟩), .pointer (some ⟨oa, 0, none⟩), .pointer (some ⟨c, 0, none⟩), .pointer (some ⟨ca, 0, none⟩), .int .i64 (gen : Int), v, .int .i64 0] : Array Value))) (by first | rfl | (simp; done)) (by first | decide | exact Nat.le_refl _ | (simp; done) | (simp; omega)) (by exact free_zero _)) ?hk_7 (fun _ _ h => h.elim) ?hl_7
            case hk_7 =>
             rintro _ _ ⟨rfl, rfl⟩
             refine ⟨keep_nil, ?_⟩
             refine lin_nil ?_
             refine nx_slots (env' := [(0, _), (1, _)]) [0, 1] rfl (fun _=>rfl) ?_
             refine nx_next ?_
             refine at_seq ?_
             refine at_region ?_
             refine op_v (p_move (fun _=>rfl)) ?_
             refine op_v (p_nilChk (fun _=>rfl) rfl) ?_
             refine op_v (p_fieldAddr0 (off := 4) Tryz.underlying150 rfl rfl Tryz.sizeOf3 (fun _=>rfl)) ?_
             refine op_r (by repeat (first | exact Has.here _ | apply Has.there)) (p_load Tryz.isAgg3 (fun _=>rfl) (by rfl)) rfl rfl ?_
             first | (refine op_v (p_add_nat (n := 1) (fun _=>rfl) (fun _=>rfl) ?_) ?_; (focus (omega))) | (refine op_v (p_add (fun _=>rfl) (fun _=>rfl) (IntWalk.i64_in _ ?_)) ?_; (focus (omega)))
             refine op_v (p_nilChk (fun _=>rfl) rfl) ?_
             refine op_v (p_fieldAddr0 (off := 4) Tryz.underlying150 rfl rfl Tryz.sizeOf3 (fun _=>rfl)) ?_
             refine op_e (w_store Tryz.sizeOf3 (fun _=>rfl) (fun _=>rfl) rfl (by repeat (first | exact Upd.here _ | apply Upd.there)) (by exact (rfl : _ = (#[.pointer (some ⟨np, 0, none⟩), .pointer (some ⟨oa, 0, none⟩), .pointer (some ⟨c, 0, none⟩), .pointer (some ⟨ca, 0, none⟩), .int .i64 ((gen + 1 : Nat) : Int), v, .int .i64 0] : Array Value))) (by first | decide | exact Nat.le_refl _ | (simp; done) | (simp; omega)) (by exact free_zero _)) (fun _=>rfl) rfl rfl ?_
             rintro _ _ ⟨rfl, rfl⟩
             refine ops_nil ?_
             refine nx_next ?_
             refine at_seq ?_
             refine at_region ?_
             refine op_v (p_move (fun _=>rfl)) ?_
             refine op_v (p_move (fun _=>rfl)) ?_
             refine ops_eff (fun _=>rfl) (fits_of rfl) rfl (w_call (vs := [_]) (fun _=>rfl) Tryz.call55 (fun _=>rfl) rfl (clone_spec _ ls sl hl (by omega)) (by repeat (first | exact Pull.nil _ | (apply Pull.cons; (focus (repeat (first | exact One.here _ _ | apply One.there))))))) ?_ no_pan
             rintro _ _ ⟨_, ⟨sv, hv, rfl⟩, rfl⟩
             obtain ⟨gv, cv, rfl⟩ := hv.form
             refine op_v (p_nilChk (fun _=>rfl) rfl) ?_
             refine op_v (p_fieldAddr0 (off := 5) Tryz.underlying150 rfl rfl Tryz.sizeOf43 (fun _=>rfl)) ?_
             refine op_e (w_store Tryz.sizeOf43 (fun _=>rfl) (fun _=>rfl) rfl (by repeat (first | exact Upd.here _ | apply Upd.there)) (by rfl) (by first | decide | exact Nat.le_refl _ | (simp; done) | (simp; omega)) (by exact free_zero _)) (fun _=>rfl) rfl rfl ?_
             rintro _ _ ⟨rfl, rfl⟩
             refine ops_nil ?_
             refine nx_slots (env' := []) [] rfl (fun _=>rfl) ?_
             refine nx_next ?_
             refine at_seq ?_
             refine at_region ?_
             refine op_v (p_assign (fun _=>rfl)) ?_
             refine ops_nil ?_
             refine nx_next ?_
             refine at_ret ?_
             refine nx_end1 (H' := _) rfl Tryz.results36 (fun _=>rfl) (by exact ⟨_, j1, d1, np, _, _, rfl, hD1, by omega, hJ1, hR1, .inr ⟨by rw [← g2]; exact hok.1, rfl, hok.2.2.1, hok.2.2.2, _, sv, hv, rfl⟩⟩)
            case hl_7 =>
             exact each_nil
           case hl_6 =>
            exact each_nil
         case hl_4 =>
          exact each_nil
        case hl_3 =>
         exact each_nil
       case hl_2 =>
        exact each_nil
      case hl_1 =>
       exact each_nil
     ·
      exact absurd rfl hq3

end Go.Proofs.YthbadolcncojbaaGreatDoor
