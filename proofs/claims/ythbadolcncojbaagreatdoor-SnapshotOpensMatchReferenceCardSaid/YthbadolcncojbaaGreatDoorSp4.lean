/- Package snapshot: the methods of a store. -/
import Derived.Test.YthbadolcncojbaaGreatDoorEz
import Derived.Test.YthbadolcncojbaaGreatDoorSp3
namespace Go.Proofs.YthbadolcncojbaaGreatDoor
open Go.Proofs.Tryz
open Go Go.RowKit Gw
set_option linter.unusedVariables false
set_option maxRecDepth 100000
attribute [local irreducible] Gw.At Gw.Nx Gw.Ops
theorem open_same (a : Nat) : DoesR Tryz.prog 23 #[.pointer (some ⟨a, 0, none⟩), .pointer (some ⟨a, 0, none⟩)] [] (.tuple #[.pointer none, .int .i64 240]) := by
 refine spec_enter func23 rfl ntmps23 rfl ?_
 intro u R
 refine Zb [0, 1] ?_
 refine Zq <| Zg <| Za Y <| Za Y <| Z0 <| Zx <| Zq <| at_block <| Zq <| Zg <| Zm Y ?_
 first | refine op_v (p_eql_nil_nil underlying26 Y Y) ?_ | refine op_v (p_eql_ptr_nil underlying26 Y Y) ?_
 refine Zm Y ?_
 refine ops_split_bool (t := 21) Y rfl (fun hq1 => ?_) (fun hq1 => ?_)
 ·
  cases hq1
 ·
  refine Zf Y Y ?_
  first | refine op_wg Y (p_eql_nil_nil underlying26 Y Y) rfl rfl ?_ | refine op_wg Y (p_eql_ptr_nil underlying26 Y Y) rfl rfl ?_
  refine Zv (p_pick_f Y Y) <| Za Y <| Z0 <| Zx ?_
  refine at_if_bool Y (fun hq2 => ?_) (fun hq2 => ?_)
  ·
   cases hq2
  ·
   refine Zq <| Zg <| Zm Y <| Zm Y ?_
   refine op_w (p_eql_ptr_eq underlying26 (rfl : Tryz.prog.info? 103 = some Tryz.t103) Y Y) rfl rfl ?_
   refine Za Y <| Z0 <| Zn [0, 1, 25] ?_
   refine Zx ?_
   refine at_if_bool Y (fun hq3 => ?_) (fun hq3 => ?_)
   ·
    refine Zq <| Zg <| Za Y <| Za Y <| Z0 <| Zx <| at_ret <| nx_block_ret <| Zt ?_
    refine nx_end2 rfl results23 Y Y (by exact ⟨rfl, rfl⟩)
   ·
    cases hq3

theorem open_nil1 (v : Value) : DoesR Tryz.prog 23 #[.pointer none, v] [] (.tuple #[.pointer none, .int .i64 1]) := by
 refine spec_enter func23 rfl ntmps23 rfl ?_
 intro u R
 refine Zb [0, 1] ?_
 refine Zq <| Zg <| Za Y <| Za Y <| Z0 <| Zx <| Zq <| at_block <| Zq <| Zg <| Zm Y ?_
 first | refine op_v (p_eql_nil_nil underlying26 Y Y) ?_ | refine op_v (p_eql_ptr_nil underlying26 Y Y) ?_
 refine Zm Y ?_
 refine ops_split_bool (t := 21) Y rfl (fun hq1 => ?_) (fun hq1 => ?_)
 ·
  refine op_skip Y rfl <| op_skip Y rfl <| Zv (p_pick_t Y Y) <| Za Y <| Z0 <| Zx <| at_then Y <| Zq <| Zg <| Za Y <| Za Y <| Z0 <| Zx <| at_ret <| nx_block_ret <| Zt ?_
  refine nx_end2 rfl results23 Y Y (by exact ⟨rfl, rfl⟩)
 ·
  cases hq1

theorem items_spec (sp c ca o oa gen : Nat) (v : Value) (its : List (List UInt8)) (sr : List Chunk) (hrow : Row 9 v (its.map strV) sr) (hn : its.length ≤ 4194304) : Does Tryz.prog 26 #[.pointer (some ⟨sp, 0, none⟩)] [[(sp, .cells #[.pointer (some ⟨c, 0, none⟩), .pointer (some ⟨ca, 0, none⟩), .pointer (some ⟨o, 0, none⟩), .pointer (some ⟨oa, 0, none⟩), .int .i64 (gen : Int), v, .int .i64 0] 150 (0, 0))], sr] (fun r H' => ∃ sv, Row 9 r (its.map strV) sv ∧ H' = [[(sp, .cells #[.pointer (some ⟨c, 0, none⟩), .pointer (some ⟨ca, 0, none⟩), .pointer (some ⟨o, 0, none⟩), .pointer (some ⟨oa, 0, none⟩), .int .i64 (gen : Int), v, .int .i64 0] 150 (0, 0))], sr, sv]) := by
 refine spec_enter func26 rfl ntmps26 rfl ?_
 intro u R
 refine Zb [0] ?_
 refine Zq <| Zg <| Za Y <| Z0 <| Zx <| Zq <| Zq <| Zg <| Zm Y ?_
 first | refine op_v (p_eql_nil_nil underlying57 Y Y) ?_ | refine op_v (p_eql_ptr_nil underlying57 Y Y) ?_
 refine Z0 <| Zx ?_
 refine at_if_bool Y (fun hc1 => ?_) (fun hc1 => ?_)
 ·
  cases hc1
 ·
  refine at_skip <| Zx <| Zq <| Zg <| Zm Y <| Zp Y rfl <| Zh 5 underlying150 rfl rfl sizeOf43 Y <| Zl isAgg43 Y ?_
  refine Zc [_] Y call55 Y rfl (clone_spec _ its sr hrow (by omega)) ?_
  rintro _ _ ⟨_, ⟨sv, hv, rfl⟩, rfl⟩
  refine Za Y <| Z0 <| Zx <| at_ret ?_
  refine nx_end1 rfl results26 Y (by exact ⟨sv, hv, rfl⟩)

theorem gen_spec (sp c ca o oa gen : Nat) (v : Value) : DoesR Tryz.prog 27 #[.pointer (some ⟨sp, 0, none⟩)] [[(sp, .cells #[.pointer (some ⟨c, 0, none⟩), .pointer (some ⟨ca, 0, none⟩), .pointer (some ⟨o, 0, none⟩), .pointer (some ⟨oa, 0, none⟩), .int .i64 (gen : Int), v, .int .i64 0] 150 (0, 0))]] (.int .i64 (gen : Int)) := by
 refine spec_enter func27 rfl ntmps27 rfl ?_
 intro u R
 refine Zb [0] ?_
 refine Zq <| Zg <| Za Y <| Z0 <| Zx <| Zq <| Zq <| Zg <| Zm Y ?_
 first | refine op_v (p_eql_nil_nil underlying57 Y Y) ?_ | refine op_v (p_eql_ptr_nil underlying57 Y Y) ?_
 refine Z0 <| Zx ?_
 refine at_if_bool Y (fun hc1 => ?_) (fun hc1 => ?_)
 ·
  cases hc1
 ·
  refine at_skip <| Zx <| Zq <| Zg <| Zm Y <| Zp Y rfl <| Zh 4 underlying150 rfl rfl sizeOf3 Y <| Zl isAgg3 Y ?_
  refine Za Y <| Z0 <| Zx <| at_ret ?_
  refine nx_end1 rfl results27 Y (by exact ⟨rfl, rfl⟩)

theorem sroom_spec (sp c ca o oa gen : Nat) (v : Value) (j : JrS) (d : DiskS) (sc sca : List Chunk) (hJ : JrR j c ca sc) (hR : DiskR d ca sca) (hz : j.sz ≤ d.vi.length) : DoesR Tryz.prog 28 #[.pointer (some ⟨sp, 0, none⟩)] [[(sp, .cells #[.pointer (some ⟨c, 0, none⟩), .pointer (some ⟨ca, 0, none⟩), .pointer (some ⟨o, 0, none⟩), .pointer (some ⟨oa, 0, none⟩), .int .i64 (gen : Int), v, .int .i64 0] 150 (0, 0))], sc, sca] (.int .i64 ((d.vi.length : Int) - (j.sz : Int))) := by
 refine spec_enter func28 rfl ntmps28 rfl ?_
 intro u R
 refine Zb [0] ?_
 refine Zq <| Zg <| Za Y <| Z0 <| Zx <| Zq <| Zq <| Zg <| Zm Y ?_
 first | refine op_v (p_eql_nil_nil underlying57 Y Y) ?_ | refine op_v (p_eql_ptr_nil underlying57 Y Y) ?_
 refine Z0 <| Zx ?_
 refine at_if_bool Y (fun hc1 => ?_) (fun hc1 => ?_)
 ·
  cases hc1
 ·
  refine at_skip <| Zx <| Zq <| Zg <| Zm Y <| Zp Y rfl <| Zh 0 underlying150 rfl rfl sizeOf144 Y <| Zv (p_fieldAddr1 (off := 0) underlying144 rfl rfl sizeOf30 Y) <| Zl isAgg30 Y ?_
  refine Zr [_] Y call17 Y rfl (jr_room j d c ca sc sca hJ hR hz) ?_
  rintro _ _ ⟨rfl, rfl⟩
  refine Za Y <| Z0 <| Zx <| at_ret ?_
  refine nx_end1 rfl results28 Y (by exact ⟨rfl, rfl⟩)

theorem sappend_spec (sp c ca o oa gen : Nat) (v vl : Value) (its ls : List (List UInt8)) (sr sl sc sca : List Chunk) (j : JrS) (d : DiskS) (Tg : TypeId) (zg : Nat × Nat) (hrow : Row 9 v (its.map strV) sr) (hl : SubV vl (ls.map strV) sl) (hi : its.length ≤ 4194304) (hn : ls.length ≤ 1000000) (hb : ls.any isBig = false) (hD : JD j d) (hJ : JrR j c ca sc) (hR : DiskR d ca sca) :
    Does Tryz.prog 38 #[.pointer (some ⟨sp, 0, none⟩), vl] [[(sp, .cells #[.pointer (some ⟨c, 0, none⟩), .pointer (some ⟨ca, 0, none⟩), .pointer (some ⟨o, 0, none⟩), .pointer (some ⟨oa, 0, none⟩), .int .i64 (gen : Int), v, .int .i64 0] 150 (0, 0))], sr, sc, sca, sl, [(4, .cells (kTab.map u32v).toArray Tg zg)]] (fun r H' => ∃ (e : Int) (j1 : JrS) (d1 : DiskS) (v' : Value) (sr' sc' sca' : List Chunk), r = .int .i64 e ∧ JD j1 d1 ∧ d1.vi.length = d.vi.length ∧
      ((d.vi.length < j.sz + (outL j.h (ls.map itm)).length ∧ e = 231 ∧ j1 = j ∧ d1 = d ∧ v' = v ∧ sr' = sr) ∨ (j.sz + (outL j.h (ls.map itm)).length ≤ d.vi.length ∧ e = 0 ∧ j1.rs = j.rs ++ ls.map itm ∧ j1.sz = j.sz + (outL j.h (ls.map itm)).length ∧ Row 9 v' ((its ++ ls).map strV) sr')) ∧
      JrR j1 c ca sc' ∧ DiskR d1 ca sca' ∧ H' = [[(sp, .cells #[.pointer (some ⟨c, 0, none⟩), .pointer (some ⟨ca, 0, none⟩), .pointer (some ⟨o, 0, none⟩), .pointer (some ⟨oa, 0, none⟩), .int .i64 (gen : Int), v', .int .i64 0] 150 (0, 0))], sr', sc', sca', sl, [(4, .cells (kTab.map u32v).toArray Tg zg)]]) := by
 have hml : maxLen = 9223372036854775807 := rfl
 have hsh := big_none hb
 have hish : ∀ r ∈ ls.map itm, r.length ≤ 65536 := by
   intro r hr
   obtain ⟨x, hx, rfl⟩ := List.mem_map.1 hr
   have := hsh x hx
   unfold itm; rw [List.length_cons]; omega
 refine spec_enter func38 rfl ntmps38 rfl ?_
 intro u R
 refine Zb [0, 1] ?_
 refine Zq <| Zg <| Za Y <| Z0 <| Zx <| Zq <| Zq <| Zg <| Zm Y ?_
 first | refine op_v (p_eql_nil_nil underlying57 Y Y) ?_ | refine op_v (p_eql_ptr_nil underlying57 Y Y) ?_
 refine Z0 <| Zx ?_
 refine at_if_bool Y (fun hc1 => ?_) (fun hc1 => ?_)
 ·
  cases hc1
 ·
  refine at_skip <| Zx <| Zq <| Zg <| Zm Y <| Zc [_] Y call84 Y rfl (marked_sub hl hn hb) ?_
  rintro _ _ ⟨_, ⟨h, rfl, rfl⟩, rfl⟩
  refine Zm Y <| Zd Y rfl <| Zd Y rfl <| Za Y <| Za Y <| Z0 <| Zx <| Zq <| at_block <| Zq <| Zg <| Zm Y ?_
  first | refine op_v (p_not_dec Y) ?_ | refine op_v (p_not Y) ?_
  refine Za Y <| Z0 <| Zn [0, 1, 5, 15] ?_
  refine Zx ?_
  refine at_if_bool Y (fun hq => ?_) (fun hq => ?_)
  ·
   cases hq
  ·
   refine Zq <| Zg <| Zm Y <| Zp Y rfl <| Zh 6 underlying150 rfl rfl sizeOf27 Y <| Zl isAgg27 Y ?_
   first | refine op_v (p_neq_nat (n := 0) Y Y) ?_ | refine op_v (p_neq Y Y) ?_
   refine Za Y <| Z0 <| Zx ?_
   first | refine at_if Y (fun hq2 => ?_) (fun hq2 => ?_) | refine at_if_bool Y (fun hq2 => ?_) (fun hq2 => ?_)
   ·
    exact absurd rfl hq2
   ·
    refine at_skip <| nx_block_normal <| Zx <| Zq <| Zg <| Zm Y <| Zp Y rfl <| Zh 0 underlying150 rfl rfl sizeOf144 Y <| Zv (p_fieldAddr1 (off := 0) underlying144 rfl rfl sizeOf30 Y) <| Zl isAgg30 Y ?_
    refine Zm Y <| Zc [_, _] Y call13 Y rfl (jd_append j d c ca sc _ sca _ (ls.map itm) Tg zg hD hJ hR (row_new _ h ((ls.map itm).map strV) ls.length (by simp) (by omega)) hish (by rw [List.length_map]; exact hn)) ?_
    rintro _ _ ⟨_, ⟨e1, j1, d1, sj1, sd1, rfl, hD1, hv1, ho1, hJ1, hR1, rfl⟩, rfl⟩
    refine Za Y <| Z0 <| Zn [0, 1, 7] ?_
    refine Zx <| Zq <| Zq <| Zg <| Zm Y ?_
    first | refine op_v (p_eql_nat (n := 0) Y Y) ?_ | refine op_v (p_eql Y Y) ?_
    refine Z0 <| Zx ?_
    first | refine at_if Y (fun he => ?_) (fun he => ?_) | refine at_if_bool Y (fun he => ?_) (fun he => ?_)
    ·
     have hok := ho1.resolve_left (fun h => by have := h.2.1; omega)
     refine Zg <| Zm Y <| Zm Y <| Zp Y rfl <| Zh 5 underlying150 rfl rfl sizeOf43 Y <| Zl isAgg43 Y ?_
     refine Zm Y ?_
     refine Ze (w_append_sub (by_ := 16) underlying43 (rfl : Tryz.prog.info? 9 = some Tryz.t9) rfl rfl rfl rfl Y (hrow) Y (hl) (by repeat (first | exact One.here _ _ | apply One.there)) (by repeat (first | exact One.here _ _ | apply One.there)) (by simp [Value.oneCell', strV]) (by (simp only [List.length_map]; omega)) (by (simp only [List.length_map]; omega))) ?_
     rintro _ _ ⟨sq, hrq, rfl⟩
     rw [← List.map_append] at hrq
     obtain ⟨gq, cq, rfl⟩ := hrq.form
     refine Zp Y rfl <| Zh 5 underlying150 rfl rfl sizeOf43 Y <| Ze (Zs sizeOf43 Y Y rfl) ?_
     rintro _ _ ⟨rfl, rfl⟩
     refine Z0 <| Zx <| Zq <| Zg <| Zm Y <| Za Y <| Z0 <| Zn [4] ?_
     refine Zx <| at_ret ?_
     refine nx_end1 rfl results38 Y (by first | exact ⟨_, j1, d1, _, _, _, _, rfl, hD1, hv1, .inr ⟨hok.1, hok.2.1, hok.2.2.1, hok.2.2.2, hrq⟩, hJ1, hR1, rfl⟩ | exact ⟨_, j1, d1, _, _, _, _, rfl, hD1, hv1, .inl ⟨hfl.1, hfl.2.1, hfl.2.2.1, hfl.2.2.2, rfl, rfl⟩, hJ1, hR1, rfl⟩)
    ·
     have hfl := ho1.resolve_right (fun h => he h.2.1)
     refine at_skip <| Zx <| Zq <| Zg <| Zm Y <| Za Y <| Z0 <| Zx <| at_ret ?_
     refine nx_end1 rfl results38 Y (by first | exact ⟨_, j1, d1, _, _, _, _, rfl, hD1, hv1, .inr ⟨hok.1, hok.2.1, hok.2.2.1, hok.2.2.2, hrq⟩, hJ1, hR1, rfl⟩ | exact ⟨_, j1, d1, _, _, _, _, rfl, hD1, hv1, .inl ⟨hfl.1, hfl.2.1, hfl.2.2.1, hfl.2.2.2, rfl, rfl⟩, hJ1, hR1, rfl⟩)

theorem scompact_spec (sp c ca o oa gen : Nat) (v vl : Value) (its ls : List (List UInt8)) (sr sl so soa : List Chunk) (j : JrS) (d : DiskS) (pa : Addr) (Tx Tg : TypeId) (zx zg : Nat × Nat) (hrow : Row 9 v (its.map strV) sr) (hl : Row 9 vl (ls.map strV) sl) (hn : ls.length ≤ 900000) (hb : ls.any isBig = false) (hg : gen < 1000000000) (hD : JD j d) (hJ : JrR j o oa so) (hR : DiskR d oa soa) :
    Does Tryz.prog 36 #[.pointer (some ⟨sp, 0, none⟩), vl] [[(sp, .cells #[.pointer (some ⟨c, 0, none⟩), .pointer (some ⟨ca, 0, none⟩), .pointer (some ⟨o, 0, none⟩), .pointer (some ⟨oa, 0, none⟩), .int .i64 (gen : Int), v, .int .i64 0] 150 (0, 0))], sr, so, soa, sl, [(4, .cells (kTab.map u32v).toArray Tg zg)], [(0, .cells #[.iface 299 (.pointer (some pa))] Tx zx)]] (fun r H' => ∃ (e : Int) (j1 : JrS) (d1 : DiskS) (np : Nat) (so' soa' : List Chunk), r = .int .i64 e ∧ JD j1 d1 ∧ d1.vi.length = d.vi.length ∧ JrR j1 np oa so' ∧ DiskR d1 oa soa' ∧
      ((d.vi.length < (outL zero32 (recsOf (gen + 1) ls)).length ∧ e = 231 ∧ j1 = j0 ∧ H' = [[(sp, .cells #[.pointer (some ⟨c, 0, none⟩), .pointer (some ⟨ca, 0, none⟩), .pointer (some ⟨np, 0, none⟩), .pointer (some ⟨oa, 0, none⟩), .int .i64 (gen : Int), v, .int .i64 0] 150 (0, 0))], sr, so', soa', sl, [(4, .cells (kTab.map u32v).toArray Tg zg)], [(0, .cells #[.iface 299 (.pointer (some pa))] Tx zx)]]) ∨
       ((outL zero32 (recsOf (gen + 1) ls)).length ≤ d.vi.length ∧ e = 0 ∧ j1.rs = recsOf (gen + 1) ls ∧ j1.sz = (outL zero32 (recsOf (gen + 1) ls)).length ∧ ∃ v' sr', Row 9 v' (ls.map strV) sr' ∧ H' = [[(sp, .cells #[.pointer (some ⟨np, 0, none⟩), .pointer (some ⟨oa, 0, none⟩), .pointer (some ⟨c, 0, none⟩), .pointer (some ⟨ca, 0, none⟩), .int .i64 ((gen + 1 : Nat) : Int), v', .int .i64 0] 150 (0, 0))], sr', so', soa', sl, [(4, .cells (kTab.map u32v).toArray Tg zg)], [(0, .cells #[.iface 299 (.pointer (some pa))] Tx zx)]]))) := by
 have hml : maxLen = 9223372036854775807 := rfl
 have hsh := big_none hb
 have hhl := hdr_len (gen + 1) (by omega)
 have hish : ∀ r ∈ recsOf (gen + 1) ls, r.length ≤ 65536 := by
   intro r hr
   unfold recsOf at hr
   rcases List.mem_cons.1 hr with rfl | hr
   · omega
   · obtain ⟨x, hx, rfl⟩ := List.mem_map.1 hr
     have := hsh x hx
     unfold itm; rw [List.length_cons]; omega
 refine spec_enter func36 rfl ntmps36 rfl ?_
 intro u R
 refine Zb [0, 1] ?_
 refine Zq <| Zg <| Za Y <| Z0 <| Zx <| Zq <| Zq <| Zg <| Zm Y ?_
 first | refine op_v (p_eql_nil_nil underlying57 Y Y) ?_ | refine op_v (p_eql_ptr_nil underlying57 Y Y) ?_
 refine Z0 <| Zx ?_
 refine at_if_bool Y (fun hc1 => ?_) (fun hc1 => ?_)
 ·
  cases hc1
 ·
  refine at_skip <| Zx <| Zq <| Zg <| Zm Y <| Zc [_] Y call84 Y rfl (marked_row hl (by omega) hb) ?_
  rintro _ _ ⟨_, ⟨h, rfl, rfl⟩, rfl⟩
  refine Zm Y <| Zd Y rfl <| Zd Y rfl <| Za Y <| Za Y <| Z0 <| Zx <| Zq <| at_block <| Zq <| Zg <| Zm Y ?_
  first | refine op_v (p_not_dec Y) ?_ | refine op_v (p_not Y) ?_
  refine Zm Y ?_
  refine ops_split_bool (t := 19) Y rfl (fun hq => ?_) (fun hq => ?_)
  ·
   cases hq
  ·
   refine Zf Y Y <| op_wg Y (p_nilChk Y rfl) rfl rfl ?_
   refine op_wg Y (p_fieldAddr0 (off := 4) underlying150 rfl rfl sizeOf3 Y) rfl rfl ?_
   refine op_rg Y (by repeat (first | exact Has.here _ | apply Has.there)) (p_load isAgg3 Y (by rfl)) rfl rfl ?_
   first | refine op_wg Y (p_geq_nat (n := 1000000000) Y Y) rfl rfl ?_ | refine op_wg Y (p_geq Y Y) rfl rfl ?_
   refine Zv (p_pick_f Y Y) <| Za Y <| Z0 <| Zn [0, 1, 5, 16] ?_
   refine Zx ?_
   first | refine at_if Y (fun hq9 => ?_) (fun hq9 => ?_) | refine at_if_bool Y (fun hq9 => ?_) (fun hq9 => ?_)
   ·
    exfalso; omega
   ·
    refine Zq <| Zg <| Zm Y <| Zp Y rfl <| Zh 6 underlying150 rfl rfl sizeOf27 Y <| Zl isAgg27 Y ?_
    first | refine op_v (p_neq_nat (n := 0) Y Y) ?_ | refine op_v (p_neq Y Y) ?_
    refine Za Y <| Z0 <| Zx ?_
    first | refine at_if Y (fun hq2 => ?_) (fun hq2 => ?_) | refine at_if_bool Y (fun hq2 => ?_) (fun hq2 => ?_)
    ·
     exact absurd rfl hq2
    ·
     refine at_skip <| nx_block_normal <| Zx <| Zq <| Zg <| Zm Y <| Zp Y rfl <| Zh 2 underlying150 rfl rfl sizeOf144 Y <| Zo (by repeat (first | exact Has.here _ | apply Has.there)) (p_load_agg (cs := #[_, _]) isAgg144 sizeOf144 Y (by first | decide | exact Nat.le_refl _ | (simp; done) | (simp; omega)) (by rfl)) ?_
     refine Zc [_] Y call85 Y rfl (erase_spec j d o oa so soa pa Tx Tg zx zg hD hJ hR) ?_
     rintro _ _ ⟨_, ⟨np, sn, d2, sd2, rfl, g1, g2, g3, g4, rfl⟩, rfl⟩
     refine Zm Y <| Zd Y rfl <| Zd Y rfl <| Ze (w_alloc zeroValue144 (cs := #[_, _]) rfl) ?_
     rintro _ _ ⟨bf, rfl, rfl⟩
     refine Ze (w_store_agg sizeOf144 Y Y (by first | (simp [Value.oneCell']; done) | (simp [Value.oneCell', Value.cells]; done)) (by repeat (first | exact Upd.here _ | apply Upd.there)) (by exact (rfl : _ = (#[.pointer (some ⟨np, 0, none⟩), .pointer (some ⟨oa, 0, none⟩)] : Array Value))) (by first | rfl | (simp; done)) (by first | decide | exact Nat.le_refl _ | (simp; done) | (simp; omega)) (by exact free_zero _)) ?_
     rintro _ _ ⟨rfl, rfl⟩
     refine Za Y <| Z0 <| Zn [0, 1, 5, 7, 8] ?_
     refine Zx <| Zq <| Zq <| Zg <| Zm Y ?_
     first | refine op_v (p_eql_nat (n := 0) Y Y) ?_ | refine op_v (p_eql Y Y) ?_
     refine Z0 <| Zx ?_
     first | refine at_if Y (fun hq3 => ?_) (fun hq3 => ?_) | refine at_if_bool Y (fun hq3 => ?_) (fun hq3 => ?_)
     ·
      refine Zq <| Zg <| Zm Y <| Zo (by repeat (first | exact Has.here _ | apply Has.there)) (p_load_agg (cs := #[_, _]) isAgg144 sizeOf144 Y (by first | decide | exact Nat.le_refl _ | (simp; done) | (simp; omega)) (by rfl)) ?_
      refine Zp Y rfl <| Zh 2 underlying150 rfl rfl sizeOf144 Y <| Ze (w_store_agg sizeOf144 Y Y (by first | (simp [Value.oneCell']; done) | (simp [Value.oneCell', Value.cells]; done)) (by repeat (first | exact Upd.here _ | apply Upd.there)) (by exact (rfl : _ = (#[.pointer (some ⟨c, 0, none⟩), .pointer (some ⟨ca, 0, none⟩), .pointer (some ⟨np, 0, none⟩), .pointer (some ⟨oa, 0, none⟩), .int .i64 (gen : Int), v, .int .i64 0] : Array Value))) (by first | rfl | (simp; done)) (by first | decide | exact Nat.le_refl _ | (simp; done) | (simp; omega)) (by exact free_zero _)) ?_
      rintro _ _ ⟨rfl, rfl⟩
      refine Z0 <| Zx <| at_draw (n := 13) (0 :: 1 :: 0 :: 0 :: 8 :: 24 :: 56 :: 120 :: 248 :: 504 :: 1020 :: 2047 :: 4095 :: []) 3840 (by kernel_rfl) (by kernel_rfl) rfl ?_
      refine Zi 1 0 rfl (p_fieldAddr0 (off := 0) underlying144 rfl rfl sizeOf30 Y) <| Zj 3 1 rfl isAgg30 Y ?_
      refine Zi 7 2 rfl (p_move Y) <| Zi 15 3 rfl (p_move Y) <| Zi 31 4 rfl (p_nilChk Y rfl) <| Zi 63 5 rfl (p_fieldAddr0 (off := 4) underlying150 rfl rfl sizeOf3 Y) <| Zj 127 6 rfl isAgg3 Y ?_
      first | (refine lin_v (D' := 255) 7 (p_add_nat (n := 1) Y Y ?_) ?_; (focus (omega))) | (refine lin_v (D' := 255) 7 (p_add Y Y (IntWalk.i64_in _ ?_)) ?_; (focus (omega)))
      refine Zz (l := [8]) ?_
      refine Zy 248 511 [6, 1] [false, true] [(1, (_, _))] rfl Y rfl rfl rfl rfl (Zu [_] Y call70 Y rfl (header_spec (gen + 1) (by omega))) ?hk_1 (fun _ _ h => h.elim) ?hl_1
      case hk_1 =>
       rintro _ _ ⟨rfl, rfl⟩
       refine ⟨Zk (keep_nil), ?_⟩
       refine Zz (l := [9]) ?_
       refine Zy 504 1023 [1] [true] [(1, (_, _))] rfl Y rfl rfl rfl rfl (w_buildSlice (vs := [_]) (cs := [_]) underlying43 sizeOf9 zeroValue9 Y rfl rfl rfl rfl rfl) ?hk_2 (fun _ _ h => h.elim) ?hl_2
       case hk_2 =>
        rintro _ _ ⟨gq, rfl, rfl⟩
        refine ⟨Zk (keep_nil), ?_⟩
        refine Zz (l := [10]) ?_
        refine Zy 1020 2047 [1] [true] [(1, (_, _))] rfl Y rfl rfl rfl rfl (Zw [_, _, _] Y call86 Y rfl (insert_spec h gq ls.length (hdr (gen + 1)) (ls.map itm) (by simp) (by omega))) ?hk_3 no_pan ?hl_3
        case hk_3 =>
         rintro _ _ ⟨_, ⟨si, hi, rfl⟩, rfl⟩
         refine ⟨Zk (keep_nil), ?_⟩
         obtain ⟨gi, ci, rfl⟩ := hi.form
         refine Zz (l := [11]) ?_
         refine Zy 2047 4095 [1] [false] [] rfl Y rfl rfl rfl rfl (Zw [_, _] Y call13 Y rfl (jd_append j0 d2 np oa sn si sd2 _ (recsOf (gen + 1) ls) Tg zg g1 g3 g4 hi hish (by unfold recsOf; simp; omega))) ?hk_4 no_pan ?hl_4
         case hk_4 =>
          rintro _ _ ⟨_, ⟨e1, j1, d1, sj1, sd1, rfl, hD1, hv1, ho1, hJ1, hR1, rfl⟩, rfl⟩
          refine ⟨keep_nil, ?_⟩
          simp only [Nat.zero_add, List.nil_append] at ho1
          refine Zi 8191 12 rfl (p_assign Y) <| lin_nil ?_
          refine Zn [0, 1, 7, 8] ?_
          refine Zx <| Zq <| Zq <| Zg <| Zm Y ?_
          first | refine op_v (p_neq_nat (n := 0) Y Y) ?_ | refine op_v (p_neq Y Y) ?_
          refine Z0 <| Zx ?_
          first | refine at_if Y (fun he => ?_) (fun he => ?_) | refine at_if_bool Y (fun he => ?_) (fun he => ?_)
          ·
           have hfl := ho1.resolve_right (fun h => he h.2.1)
           refine Zq <| Zq <| Zg <| Zm Y ?_
           first | refine op_v (p_neq_nat (n := 231) Y Y) ?_ | refine op_v (p_neq Y Y) ?_
           refine Z0 <| Zx ?_
           first | refine at_if Y (fun he2 => ?_) (fun he2 => ?_) | refine at_if_bool Y (fun he2 => ?_) (fun he2 => ?_)
           ·
            exfalso; have := hfl.2.1; omega
           ·
            refine at_skip <| Zx <| Zq <| Zg <| Zm Y <| Za Y <| Z0 <| Zx <| at_ret <| Zt ?_
            refine nx_end1 rfl results36 Y (by exact ⟨_, j1, d1, np, _, _, rfl, hD1, by omega, hJ1, hR1, .inl ⟨by rw [← g2]; exact hfl.1, hfl.2.1, hfl.2.2.1, rfl⟩⟩)
          ·
           have hok := ho1.resolve_left (fun h => he (by rw [h.2.1]; decide))
           refine at_skip <| Zx <| Zq <| at_draw (n := 13) (0 :: 0 :: 0 :: 0 :: 8 :: 24 :: 56 :: 125 :: 253 :: 509 :: 1023 :: 2047 :: 4095 :: []) 4608 (by kernel_rfl) (by kernel_rfl) rfl ?_
           refine Zi 1 0 rfl (p_move Y) <| Zi 3 1 rfl (p_move Y) <| lin_r (D' := 7) 2 rfl rfl rfl (by repeat (first | exact Has.here _ | apply Has.there)) (p_load_agg (cs := #[_, _]) isAgg144 sizeOf144 Y (by first | decide | exact Nat.le_refl _ | (simp; done) | (simp; omega)) (by rfl)) ?_
           refine Zi 15 3 rfl (p_move Y) <| Zi 31 4 rfl (p_nilChk Y rfl) <| Zi 63 5 rfl (p_fieldAddr0 (off := 0) underlying150 rfl rfl sizeOf144 Y) <| lin_r (D' := 127) 6 rfl rfl rfl (by repeat (first | exact Has.here _ | apply Has.there)) (p_load_agg (cs := #[_, _]) isAgg144 sizeOf144 Y (by first | decide | exact Nat.le_refl _ | (simp; done) | (simp; omega)) (by rfl)) ?_
           refine Zi 255 7 rfl (p_nilChk Y rfl) <| Zi 511 8 rfl (p_fieldAddr0 (off := 0) underlying150 rfl rfl sizeOf144 Y) <| Zz (l := [9]) ?_
           refine Zy 509 1023 [6, 2] [false, false] [] rfl Y rfl rfl rfl rfl (w_store_agg sizeOf144 Y Y (by first | (simp [Value.oneCell']; done) | (simp [Value.oneCell', Value.cells]; done)) (by repeat (first | exact Upd.here _ | apply Upd.there)) (by exact (rfl : _ = (#[.pointer (some ⟨np, 0, none⟩), .pointer (some ⟨oa, 0, none⟩), .pointer (some ⟨np, 0, none⟩), .pointer (some ⟨oa, 0, none⟩), .int .i64 (gen : Int), v, .int .i64 0] : Array Value))) (by first | rfl | (simp; done)) (by first | decide | exact Nat.le_refl _ | (simp; done) | (simp; omega)) (by exact free_zero _)) ?hk_6 (fun _ _ h => h.elim) ?hl_6
           case hk_6 =>
            rintro _ _ ⟨rfl, rfl⟩
            refine ⟨keep_nil, ?_⟩
            refine Zi 2047 10 rfl (p_nilChk Y rfl) <| Zi 4095 11 rfl (p_fieldAddr0 (off := 2) underlying150 rfl rfl sizeOf144 Y) <| Zz (l := [12]) ?_
            refine Zy 4095 8191 [] [] [] rfl Y rfl rfl rfl rfl (w_store_agg sizeOf144 Y Y (by first | (simp [Value.oneCell']; done) | (simp [Value.oneCell', Value.cells]; done)) (by repeat (first | exact Upd.here _ | apply Upd.there)) (by exact (rfl : _ = (#[.pointer (some ⟨np, 0, none⟩), .pointer (some ⟨oa, 0, none⟩), .pointer (some ⟨c, 0, none⟩), .pointer (some ⟨ca, 0, none⟩), .int .i64 (gen : Int), v, .int .i64 0] : Array Value))) (by first | rfl | (simp; done)) (by first | decide | exact Nat.le_refl _ | (simp; done) | (simp; omega)) (by exact free_zero _)) ?hk_7 (fun _ _ h => h.elim) ?hl_7
            case hk_7 =>
             rintro _ _ ⟨rfl, rfl⟩
             refine ⟨keep_nil, ?_⟩
             refine lin_nil ?_
             refine Zn [0, 1] ?_
             refine Zx <| Zq <| Zg <| Zm Y <| Zp Y rfl <| Zh 4 underlying150 rfl rfl sizeOf3 Y <| Zl isAgg3 Y ?_
             first | (refine op_v (p_add_nat (n := 1) Y Y ?_) ?_; (focus (omega))) | (refine op_v (p_add Y Y (IntWalk.i64_in _ ?_)) ?_; (focus (omega)))
             refine Zp Y rfl <| Zh 4 underlying150 rfl rfl sizeOf3 Y <| Ze (Zs sizeOf3 Y Y rfl (hc := by exact (rfl : _ = (#[.pointer (some ⟨np, 0, none⟩), .pointer (some ⟨oa, 0, none⟩), .pointer (some ⟨c, 0, none⟩), .pointer (some ⟨ca, 0, none⟩), .int .i64 ((gen + 1 : Nat) : Int), v, .int .i64 0] : Array Value)))) ?_
             rintro _ _ ⟨rfl, rfl⟩
             refine Z0 <| Zx <| Zq <| Zg <| Zm Y <| Zm Y <| Zc [_] Y call55 Y rfl (clone_spec _ ls sl hl (by omega)) ?_
             rintro _ _ ⟨_, ⟨sv, hv, rfl⟩, rfl⟩
             obtain ⟨gv, cv, rfl⟩ := hv.form
             refine Zp Y rfl <| Zh 5 underlying150 rfl rfl sizeOf43 Y <| Ze (Zs sizeOf43 Y Y rfl) ?_
             rintro _ _ ⟨rfl, rfl⟩
             refine Z0 <| Zn [] ?_
             refine Zx <| Zq <| Zg <| Za Y <| Z0 <| Zx <| at_ret ?_
             refine nx_end1 rfl results36 Y (by exact ⟨_, j1, d1, np, _, _, rfl, hD1, by omega, hJ1, hR1, .inr ⟨by rw [← g2]; exact hok.1, rfl, hok.2.2.1, hok.2.2.2, _, sv, hv, rfl⟩⟩)
            case hl_7 =>
             exact each_nil
           case hl_6 =>
            exact each_nil
         case hl_4 =>
          exact each_nil
        case hl_3 =>
         exact each_nil
       case hl_2 =>
        exact each_nil
      case hl_1 =>
       exact each_nil
     ·
      exact absurd rfl hq3

end Go.Proofs.YthbadolcncojbaaGreatDoor
