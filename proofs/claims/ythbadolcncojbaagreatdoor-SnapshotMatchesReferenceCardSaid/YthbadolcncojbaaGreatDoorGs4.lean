/- Package snapshot in general: Append, Compact. Package snapshot in general: a store over plain states. -/
import Derived.Test.YthbadolcncojbaaGreatDoorEz
import Derived.Test.YthbadolcncojbaaGreatDoorGs2
import Derived.Test.YthbadolcncojbaaGreatDoorSp4

namespace Go.Proofs.YthbadolcncojbaaGreatDoor
open Go.Proofs.Tryz
open Go Go.RowKit Gw
set_option linter.unusedVariables false
set_option maxRecDepth 100000
attribute [local irreducible] Gw.At Gw.Nx Gw.Ops
theorem appS_err {j : JrS} {d : DiskS} {err : Int} {its ls : List (List UInt8)} (hb : ls.any isBig = false) (he : err ≠ 0) : appS j d err its ls = (err, j, d, its) := by unfold appS; rw [if_neg (by rw [hb]; simp), if_pos he]
theorem appS_ok {j : JrS} {d : DiskS} {err : Int} {its ls : List (List UInt8)} (hb : ls.any isBig = false) (he : ¬ err ≠ 0) (h : (j.append d (ls.map itm)).1 = 0) : appS j d err its ls = ((j.append d (ls.map itm)).1, (j.append d (ls.map itm)).2.1, (j.append d (ls.map itm)).2.2, its ++ ls) := by unfold appS; rw [if_neg (by rw [hb]; simp), if_neg he, if_pos h]
theorem appS_no {j : JrS} {d : DiskS} {err : Int} {its ls : List (List UInt8)} (hb : ls.any isBig = false) (he : ¬ err ≠ 0) (h : ¬ (j.append d (ls.map itm)).1 = 0) : appS j d err its ls = ((j.append d (ls.map itm)).1, (j.append d (ls.map itm)).2.1, (j.append d (ls.map itm)).2.2, its) := by unfold appS; rw [if_neg (by rw [hb]; simp), if_neg he, if_neg h]
theorem cptS_none {j : JrS} {d : DiskS} {gen : Nat} {ls : List (List UInt8)} (h : (ersS j d).2.1 = none) : cptS j d gen ls = ((ersS j d).1, j, (ersS j d).2.2) := by
  unfold cptS
  revert h
  cases ersS j d with
  | mk e y =>
    obtain ⟨jo, d'⟩ := y
    rintro rfl
    rfl
theorem cptS_some {j j1 : JrS} {d : DiskS} {gen : Nat} {ls : List (List UInt8)} (h : (ersS j d).2.1 = some j1) : cptS j d gen ls = j1.append (ersS j d).2.2 (recsOf (gen + 1) ls) := by
  unfold cptS
  revert h
  cases ersS j d with
  | mk e y =>
    obtain ⟨jo, d'⟩ := y
    rintro rfl
    rfl
theorem errS_no {e : Int} (h : e ≠ 231) : errS e = e := by unfold errS; rw [if_neg h]
theorem errS_full {e : Int} (h : ¬ e ≠ 231) : errS e = 0 := by unfold errS; rw [if_pos (Classical.not_not.1 h)]

theorem sapp_on (sp c ca o oa gen n k : Nat) (v vl : Value) (err : Int) (its ls : List (List UInt8)) (sr sl sc sca : List Chunk) (j : JrS) (d : DiskS) (Tg : TypeId) (zg : Nat × Nat) (hrow : Row 9 v (its.map strV) sr) (hl : SubV vl (ls.map strV) sl) (hi : its.length ≤ 4194304) (hn : ls.length ≤ 1000000) (hb : ls.any isBig = false) (hW : Wok n k d (some j)) (h3 : n ≤ 4194304) (hk : k ≤ 900000) (hJ : JrR j c ca sc) (hR : DiskR d ca sca) :
    Does Tryz.prog 38 #[.pointer (some ⟨sp, 0, none⟩), vl] [[(sp, .cells #[.pointer (some ⟨c, 0, none⟩), .pointer (some ⟨ca, 0, none⟩), .pointer (some ⟨o, 0, none⟩), .pointer (some ⟨oa, 0, none⟩), .int .i64 (gen : Int), v, .int .i64 err] 150 (0, 0))], sr, sc, sca, sl, [(4, .cells (kTab.map u32v).toArray Tg zg)]] (fun r H' => ∃ (v' : Value) (sr' sc' sca' : List Chunk), r = .int .i64 (appS j d err its ls).1 ∧ JrR (appS j d err its ls).2.1 c ca sc' ∧ DiskR (appS j d err its ls).2.2.1 ca sca' ∧ Row 9 v' ((appS j d err its ls).2.2.2.map strV) sr' ∧ H' = [[(sp, .cells #[.pointer (some ⟨c, 0, none⟩), .pointer (some ⟨ca, 0, none⟩), .pointer (some ⟨o, 0, none⟩), .pointer (some ⟨oa, 0, none⟩), .int .i64 (gen : Int), v', .int .i64 err] 150 (0, 0))], sr', sc', sca', sl, [(4, .cells (kTab.map u32v).toArray Tg zg)]]) := by
 have hml : maxLen = 9223372036854775807 := rfl
 have hish := itm_long hb
 refine spec_enter func38 rfl ntmps38 rfl ?_
 intro u R
 refine Zb [0, 1] ?_
 refine Zq <| Zg <| Za Y <| Z0 <| Zx <| Zq <| Zq <| Zg <| Zm Y ?_
 first | refine op_v (p_eql_nil_nil underlying57 Y Y) ?_ | refine op_v (p_eql_ptr_nil underlying57 Y Y) ?_
 refine Z0 <| Zx ?_
 refine at_if_bool Y (fun hc1 => ?_) (fun hc1 => ?_)
 ·
  cases hc1
 ·
  refine at_skip <| Zx <| Zq <| Zg <| Zm Y <| Zc [_] Y call84 Y rfl (marked_sub hl hn hb) ?_
  rintro _ _ ⟨_, ⟨h, rfl, rfl⟩, rfl⟩
  refine Zm Y <| Zd Y rfl <| Zd Y rfl <| Za Y <| Za Y <| Z0 <| Zx <| Zq <| at_block <| Zq <| Zg <| Zm Y ?_
  first | refine op_v (p_not_dec Y) ?_ | refine op_v (p_not Y) ?_
  refine Za Y <| Z0 <| Zn [0, 1, 5, 15] ?_
  refine Zx ?_
  refine at_if_bool Y (fun hq => ?_) (fun hq => ?_)
  ·
   cases hq
  ·
   refine Zq <| Zg <| Zm Y <| Zp Y rfl <| Zh 6 underlying150 rfl rfl sizeOf27 Y <| Zl isAgg27 Y ?_
   first | refine op_v (p_neq_nat (n := 0) Y Y) ?_ | refine op_v (p_neq Y Y) ?_
   refine Za Y <| Z0 <| Zx ?_
   first | refine at_if Y (fun hq2 => ?_) (fun hq2 => ?_) | refine at_if_bool Y (fun hq2 => ?_) (fun hq2 => ?_)
   ·
    rw [appS_err hb hq2]
    refine Zq <| Zg <| Zm Y <| Zp Y rfl <| Zh 6 underlying150 rfl rfl sizeOf27 Y <| Zl isAgg27 Y ?_
    refine Za Y <| Z0 <| Zx <| at_ret <| nx_block_ret <| Zt ?_
    refine nx_end1 rfl results38 Y (by exact ⟨_, _, _, _, rfl, hJ, hR, hrow, rfl⟩)
   ·
    refine at_skip <| nx_block_normal <| Zx <| Zq <| Zg <| Zm Y <| Zp Y rfl <| Zh 0 underlying150 rfl rfl sizeOf144 Y <| Zv (p_fieldAddr1 (off := 0) underlying144 rfl rfl sizeOf30 Y) <| Zl isAgg30 Y ?_
    refine Zm Y <| Zc [_, _] Y call13 Y rfl (jr_app_any j d c ca sc _ sca _ (ls.map itm) Tg zg hW h3 hJ hR (row_new _ h ((ls.map itm).map strV) ls.length (by simp) (by omega)) (by omega) (by rw [List.length_map]; exact hn) hish) ?_
    rintro _ _ ⟨_, ⟨sj1, sd1, rfl, hJ1, hR1, rfl⟩, rfl⟩
    refine Za Y <| Z0 <| Zn [0, 1, 7] ?_
    refine Zx <| Zq <| Zq <| Zg <| Zm Y ?_
    first | refine op_v (p_eql_nat (n := 0) Y Y) ?_ | refine op_v (p_eql Y Y) ?_
    refine Z0 <| Zx ?_
    first | refine at_if Y (fun he => ?_) (fun he => ?_) | refine at_if_bool Y (fun he => ?_) (fun he => ?_)
    ·
     rw [appS_ok hb hq2 he]
     refine Zg <| Zm Y <| Zm Y <| Zp Y rfl <| Zh 5 underlying150 rfl rfl sizeOf43 Y <| Zl isAgg43 Y ?_
     refine Zm Y ?_
     refine Ze (w_append_sub (by_ := 16) underlying43 (rfl : Tryz.prog.info? 9 = some Tryz.t9) rfl rfl rfl rfl Y (hrow) Y (hl) (by repeat (first | exact One.here _ _ | apply One.there)) (by repeat (first | exact One.here _ _ | apply One.there)) (by simp [Value.oneCell', strV]) (by (simp only [List.length_map]; omega)) (by (simp only [List.length_map]; omega))) ?_
     rintro _ _ ⟨sq, hrq, rfl⟩
     rw [← List.map_append] at hrq
     obtain ⟨gq, cq, rfl⟩ := hrq.form
     refine Zp Y rfl <| Zh 5 underlying150 rfl rfl sizeOf43 Y <| Ze (Zs sizeOf43 Y Y rfl) ?_
     rintro _ _ ⟨rfl, rfl⟩
     refine Z0 <| Zx <| Zq <| Zg <| Zm Y <| Za Y <| Z0 <| Zn [4] ?_
     refine Zx <| at_ret ?_
     refine nx_end1 rfl results38 Y (by first | exact ⟨_, _, _, _, rfl, hJ1, hR1, hrq, rfl⟩ | exact ⟨_, _, _, _, rfl, hJ1, hR1, hrow, rfl⟩)
    ·
     rw [appS_no hb hq2 he]
     refine at_skip <| Zx <| Zq <| Zg <| Zm Y <| Za Y <| Z0 <| Zx <| at_ret ?_
     refine nx_end1 rfl results38 Y (by first | exact ⟨_, _, _, _, rfl, hJ1, hR1, hrq, rfl⟩ | exact ⟨_, _, _, _, rfl, hJ1, hR1, hrow, rfl⟩)

theorem scpt_err (sp c ca o oa gen : Nat) (v vl : Value) (err : Int) (ls : List (List UInt8)) (sl : List Chunk) (hl : Row 9 vl (ls.map strV) sl) (hn : ls.length ≤ 900000) (hb : ls.any isBig = false) (hg : gen < 1000000000) (he : err ≠ 0) :
    DoesR Tryz.prog 36 #[.pointer (some ⟨sp, 0, none⟩), vl] [[(sp, .cells #[.pointer (some ⟨c, 0, none⟩), .pointer (some ⟨ca, 0, none⟩), .pointer (some ⟨o, 0, none⟩), .pointer (some ⟨oa, 0, none⟩), .int .i64 (gen : Int), v, .int .i64 err] 150 (0, 0))], sl] (.int .i64 err) := by
 refine spec_enter func36 rfl ntmps36 rfl ?_
 intro u R
 refine Zb [0, 1] ?_
 refine Zq <| Zg <| Za Y <| Z0 <| Zx <| Zq <| Zq <| Zg <| Zm Y ?_
 first | refine op_v (p_eql_nil_nil underlying57 Y Y) ?_ | refine op_v (p_eql_ptr_nil underlying57 Y Y) ?_
 refine Z0 <| Zx ?_
 refine at_if_bool Y (fun hc1 => ?_) (fun hc1 => ?_)
 ·
  cases hc1
 ·
  refine at_skip <| Zx <| Zq <| Zg <| Zm Y <| Zc [_] Y call84 Y rfl (marked_row hl (by omega) hb) ?_
  rintro _ _ ⟨_, ⟨h, rfl, rfl⟩, rfl⟩
  refine Zm Y <| Zd Y rfl <| Zd Y rfl <| Za Y <| Za Y <| Z0 <| Zx <| Zq <| at_block <| Zq <| Zg <| Zm Y ?_
  first | refine op_v (p_not_dec Y) ?_ | refine op_v (p_not Y) ?_
  refine Zm Y ?_
  refine ops_split_bool (t := 19) Y rfl (fun hq => ?_) (fun hq => ?_)
  ·
   cases hq
  ·
   refine Zf Y Y <| op_wg Y (p_nilChk Y rfl) rfl rfl ?_
   refine op_wg Y (p_fieldAddr0 (off := 4) underlying150 rfl rfl sizeOf3 Y) rfl rfl ?_
   refine op_rg Y (by repeat (first | exact Has.here _ | apply Has.there)) (p_load isAgg3 Y (by rfl)) rfl rfl ?_
   first | refine op_wg Y (p_geq_nat (n := 1000000000) Y Y) rfl rfl ?_ | refine op_wg Y (p_geq Y Y) rfl rfl ?_
   refine Zv (p_pick_f Y Y) <| Za Y <| Z0 <| Zn [0, 1, 5, 16] ?_
   refine Zx ?_
   first | refine at_if Y (fun hq9 => ?_) (fun hq9 => ?_) | refine at_if_bool Y (fun hq9 => ?_) (fun hq9 => ?_)
   ·
    exfalso; omega
   ·
    refine Zq <| Zg <| Zm Y <| Zp Y rfl <| Zh 6 underlying150 rfl rfl sizeOf27 Y <| Zl isAgg27 Y ?_
    first | refine op_v (p_neq_nat (n := 0) Y Y) ?_ | refine op_v (p_neq Y Y) ?_
    refine Za Y <| Z0 <| Zx ?_
    first | refine at_if Y (fun hq2 => ?_) (fun hq2 => ?_) | refine at_if_bool Y (fun hq2 => ?_) (fun hq2 => ?_)
    ·
     refine Zq <| Zg <| Zm Y <| Zp Y rfl <| Zh 6 underlying150 rfl rfl sizeOf27 Y <| Zl isAgg27 Y ?_
     refine Za Y <| Z0 <| Zx <| at_ret <| nx_block_ret <| Zt ?_
     refine nx_end1 rfl results36 Y (by exact ⟨rfl, rfl⟩)
    ·
     exact absurd he hq2

theorem scpt_max (sp c ca o oa gen : Nat) (v vl : Value) (err : Int) (ls : List (List UInt8)) (sl : List Chunk) (hl : Row 9 vl (ls.map strV) sl) (hn : ls.length ≤ 900000) (hb : ls.any isBig = false) (hg : 1000000000 ≤ gen) :
    DoesR Tryz.prog 36 #[.pointer (some ⟨sp, 0, none⟩), vl] [[(sp, .cells #[.pointer (some ⟨c, 0, none⟩), .pointer (some ⟨ca, 0, none⟩), .pointer (some ⟨o, 0, none⟩), .pointer (some ⟨oa, 0, none⟩), .int .i64 (gen : Int), v, .int .i64 err] 150 (0, 0))], sl] (.int .i64 240) := by
 refine spec_enter func36 rfl ntmps36 rfl ?_
 intro u R
 refine Zb [0, 1] ?_
 refine Zq <| Zg <| Za Y <| Z0 <| Zx <| Zq <| Zq <| Zg <| Zm Y ?_
 first | refine op_v (p_eql_nil_nil underlying57 Y Y) ?_ | refine op_v (p_eql_ptr_nil underlying57 Y Y) ?_
 refine Z0 <| Zx ?_
 refine at_if_bool Y (fun hc1 => ?_) (fun hc1 => ?_)
 ·
  cases hc1
 ·
  refine at_skip <| Zx <| Zq <| Zg <| Zm Y <| Zc [_] Y call84 Y rfl (marked_row hl (by omega) hb) ?_
  rintro _ _ ⟨_, ⟨h, rfl, rfl⟩, rfl⟩
  refine Zm Y <| Zd Y rfl <| Zd Y rfl <| Za Y <| Za Y <| Z0 <| Zx <| Zq <| at_block <| Zq <| Zg <| Zm Y ?_
  first | refine op_v (p_not_dec Y) ?_ | refine op_v (p_not Y) ?_
  refine Zm Y ?_
  refine ops_split_bool (t := 19) Y rfl (fun hq => ?_) (fun hq => ?_)
  ·
   cases hq
  ·
   refine Zf Y Y <| op_wg Y (p_nilChk Y rfl) rfl rfl ?_
   refine op_wg Y (p_fieldAddr0 (off := 4) underlying150 rfl rfl sizeOf3 Y) rfl rfl ?_
   refine op_rg Y (by repeat (first | exact Has.here _ | apply Has.there)) (p_load isAgg3 Y (by rfl)) rfl rfl ?_
   first | refine op_wg Y (p_geq_nat (n := 1000000000) Y Y) rfl rfl ?_ | refine op_wg Y (p_geq Y Y) rfl rfl ?_
   refine Zv (p_pick_f Y Y) <| Za Y <| Z0 <| Zn [0, 1, 5, 16] ?_
   refine Zx ?_
   first | refine at_if Y (fun hq9 => ?_) (fun hq9 => ?_) | refine at_if_bool Y (fun hq9 => ?_) (fun hq9 => ?_)
   ·
    refine Zq <| Zg <| Za Y <| Z0 <| Zx <| at_ret <| nx_block_ret <| Zt ?_
    refine nx_end1 rfl results36 Y (by exact ⟨rfl, rfl⟩)
   ·
    exfalso; omega

theorem scpt_on (sp c ca o oa gen n k : Nat) (v vl : Value) (its ls : List (List UInt8)) (sr sl so soa : List Chunk) (j : JrS) (d : DiskS) (pa : Addr) (Tx Tg : TypeId) (zx zg : Nat × Nat) (hrow : Row 9 v (its.map strV) sr) (hl : Row 9 vl (ls.map strV) sl) (hn : ls.length ≤ 900000) (hb : ls.any isBig = false) (hg : gen < 1000000000) (hW : Wok n k d (some j)) (h1 : 1 ≤ n) (h3 : n ≤ 4194304) (hk : k ≤ 900000) (hJ : JrR j o oa so) (hR : DiskR d oa soa) :
    Does Tryz.prog 36 #[.pointer (some ⟨sp, 0, none⟩), vl] [[(sp, .cells #[.pointer (some ⟨c, 0, none⟩), .pointer (some ⟨ca, 0, none⟩), .pointer (some ⟨o, 0, none⟩), .pointer (some ⟨oa, 0, none⟩), .int .i64 (gen : Int), v, .int .i64 0] 150 (0, 0))], sr, so, soa, sl, [(4, .cells (kTab.map u32v).toArray Tg zg)], [(0, .cells #[.iface 299 (.pointer (some pa))] Tx zx)]] (fun r H' => ∃ (np : Nat) (so' soa' : List Chunk), JrR (cptS j d gen ls).2.1 np oa so' ∧ DiskR (cptS j d gen ls).2.2 oa soa' ∧
      (((cptS j d gen ls).1 ≠ 0 ∧ r = .int .i64 (cptS j d gen ls).1 ∧ ∃ e2 : Int, e2 = errS (cptS j d gen ls).1 ∧ H' = [[(sp, .cells #[.pointer (some ⟨c, 0, none⟩), .pointer (some ⟨ca, 0, none⟩), .pointer (some ⟨np, 0, none⟩), .pointer (some ⟨oa, 0, none⟩), .int .i64 (gen : Int), v, .int .i64 e2] 150 (0, 0))], sr, so', soa', sl, [(4, .cells (kTab.map u32v).toArray Tg zg)], [(0, .cells #[.iface 299 (.pointer (some pa))] Tx zx)]]) ∨
       ((cptS j d gen ls).1 = 0 ∧ r = .int .i64 0 ∧ ∃ v' sr', Row 9 v' (ls.map strV) sr' ∧ H' = [[(sp, .cells #[.pointer (some ⟨np, 0, none⟩), .pointer (some ⟨oa, 0, none⟩), .pointer (some ⟨c, 0, none⟩), .pointer (some ⟨ca, 0, none⟩), .int .i64 ((gen + 1 : Nat) : Int), v', .int .i64 0] 150 (0, 0))], sr', so', soa', sl, [(4, .cells (kTab.map u32v).toArray Tg zg)], [(0, .cells #[.iface 299 (.pointer (some pa))] Tx zx)]]))) := by
 have hml : maxLen = 9223372036854775807 := rfl
 have hhl := hdr_len (gen + 1) (by omega)
 have hish := recs_long (n := gen + 1) (by omega) hb
 have hpd := hW.pend
 have hwe := ers_ok (j := j) hW h1
 refine spec_enter func36 rfl ntmps36 rfl ?_
 intro u R
 refine Zb [0, 1] ?_
 refine Zq <| Zg <| Za Y <| Z0 <| Zx <| Zq <| Zq <| Zg <| Zm Y ?_
 first | refine op_v (p_eql_nil_nil underlying57 Y Y) ?_ | refine op_v (p_eql_ptr_nil underlying57 Y Y) ?_
 refine Z0 <| Zx ?_
 refine at_if_bool Y (fun hc1 => ?_) (fun hc1 => ?_)
 ·
  cases hc1
 ·
  refine at_skip <| Zx <| Zq <| Zg <| Zm Y <| Zc [_] Y call84 Y rfl (marked_row hl (by omega) hb) ?_
  rintro _ _ ⟨_, ⟨h, rfl, rfl⟩, rfl⟩
  refine Zm Y <| Zd Y rfl <| Zd Y rfl <| Za Y <| Za Y <| Z0 <| Zx <| Zq <| at_block <| Zq <| Zg <| Zm Y ?_
  first | refine op_v (p_not_dec Y) ?_ | refine op_v (p_not Y) ?_
  refine Zm Y ?_
  refine ops_split_bool (t := 19) Y rfl (fun hq => ?_) (fun hq => ?_)
  ·
   cases hq
  ·
   refine Zf Y Y <| op_wg Y (p_nilChk Y rfl) rfl rfl ?_
   refine op_wg Y (p_fieldAddr0 (off := 4) underlying150 rfl rfl sizeOf3 Y) rfl rfl ?_
   refine op_rg Y (by repeat (first | exact Has.here _ | apply Has.there)) (p_load isAgg3 Y (by rfl)) rfl rfl ?_
   first | refine op_wg Y (p_geq_nat (n := 1000000000) Y Y) rfl rfl ?_ | refine op_wg Y (p_geq Y Y) rfl rfl ?_
   refine Zv (p_pick_f Y Y) <| Za Y <| Z0 <| Zn [0, 1, 5, 16] ?_
   refine Zx ?_
   first | refine at_if Y (fun hq9 => ?_) (fun hq9 => ?_) | refine at_if_bool Y (fun hq9 => ?_) (fun hq9 => ?_)
   ·
    exfalso; omega
   ·
    refine Zq <| Zg <| Zm Y <| Zp Y rfl <| Zh 6 underlying150 rfl rfl sizeOf27 Y <| Zl isAgg27 Y ?_
    first | refine op_v (p_neq_nat (n := 0) Y Y) ?_ | refine op_v (p_neq Y Y) ?_
    refine Za Y <| Z0 <| Zx ?_
    first | refine at_if Y (fun hq2 => ?_) (fun hq2 => ?_) | refine at_if_bool Y (fun hq2 => ?_) (fun hq2 => ?_)
    ·
     exact absurd rfl hq2
    ·
     refine at_skip <| nx_block_normal <| Zx <| Zq <| Zg <| Zm Y <| Zp Y rfl <| Zh 2 underlying150 rfl rfl sizeOf144 Y <| Zo (by repeat (first | exact Has.here _ | apply Has.there)) (p_load_agg (cs := #[_, _]) isAgg144 sizeOf144 Y (by first | decide | exact Nat.le_refl _ | (simp; done) | (simp; omega)) (by rfl)) ?_
     refine Zc [_] Y call85 Y rfl (erase_any j d o oa so soa pa Tx Tg zx zg hJ hR (by omega)) ?_
     rintro _ _ ⟨_, ⟨q, sn, sd2, rfl, hE, hR2, rfl⟩, rfl⟩
     refine Zm Y <| Zd Y rfl <| Zd Y rfl <| Ze (w_alloc zeroValue144 (cs := #[_, _]) rfl) ?_
     rintro _ _ ⟨bf, rfl, rfl⟩
     refine Ze (w_store_agg sizeOf144 Y Y (by first | (simp [Value.oneCell']; done) | (simp [Value.oneCell', Value.cells]; done)) (by repeat (first | exact Upd.here _ | apply Upd.there)) (by exact (rfl : _ = (#[.pointer q, .pointer (some ⟨oa, 0, none⟩)] : Array Value))) (by first | rfl | (simp; done)) (by first | decide | exact Nat.le_refl _ | (simp; done) | (simp; omega)) (by exact free_zero _)) ?_
     rintro _ _ ⟨rfl, rfl⟩
     refine Za Y <| Z0 <| Zn [0, 1, 5, 7, 8] ?_
     refine Zx <| Zq <| Zq <| Zg <| Zm Y ?_
     first | refine op_v (p_eql_nat (n := 0) Y Y) ?_ | refine op_v (p_eql Y Y) ?_
     refine Z0 <| Zx ?_
     first | refine at_if Y (fun hq3 => ?_) (fun hq3 => ?_) | refine at_if_bool Y (fun hq3 => ?_) (fun hq3 => ?_)
     ·
      obtain ⟨j1, hx⟩ : ∃ j1, (ersS j d).2.1 = some j1 := by
        rcases ers_code j d with ⟨j1, h9, _⟩ | ⟨_, h9⟩
        · exact ⟨j1, h9⟩
        · exact absurd hq3 h9
      rw [hx] at hE hwe
      obtain ⟨np, rfl, hJn⟩ := hE
      rw [cptS_some hx]
      refine Zq <| Zg <| Zm Y <| Zo (by repeat (first | exact Has.here _ | apply Has.there)) (p_load_agg (cs := #[_, _]) isAgg144 sizeOf144 Y (by first | decide | exact Nat.le_refl _ | (simp; done) | (simp; omega)) (by rfl)) ?_
      refine Zp Y rfl <| Zh 2 underlying150 rfl rfl sizeOf144 Y <| Ze (w_store_agg sizeOf144 Y Y (by first | (simp [Value.oneCell']; done) | (simp [Value.oneCell', Value.cells]; done)) (by repeat (first | exact Upd.here _ | apply Upd.there)) (by exact (rfl : _ = (#[.pointer (some ⟨c, 0, none⟩), .pointer (some ⟨ca, 0, none⟩), .pointer (some ⟨np, 0, none⟩), .pointer (some ⟨oa, 0, none⟩), .int .i64 (gen : Int), v, .int .i64 0] : Array Value))) (by first | rfl | (simp; done)) (by first | decide | exact Nat.le_refl _ | (simp; done) | (simp; omega)) (by exact free_zero _)) ?_
      rintro _ _ ⟨rfl, rfl⟩
      refine Z0 <| Zx <| at_draw (n := 13) (0 :: 1 :: 0 :: 0 :: 8 :: 24 :: 56 :: 120 :: 248 :: 504 :: 1020 :: 2047 :: 4095 :: []) 3840 (by kernel_rfl) (by kernel_rfl) rfl ?_
      refine Zi 1 0 rfl (p_fieldAddr0 (off := 0) underlying144 rfl rfl sizeOf30 Y) <| Zj 3 1 rfl isAgg30 Y ?_
      refine Zi 7 2 rfl (p_move Y) <| Zi 15 3 rfl (p_move Y) <| Zi 31 4 rfl (p_nilChk Y rfl) <| Zi 63 5 rfl (p_fieldAddr0 (off := 4) underlying150 rfl rfl sizeOf3 Y) <| Zj 127 6 rfl isAgg3 Y ?_
      first | (refine lin_v (D' := 255) 7 (p_add_nat (n := 1) Y Y ?_) ?_; (focus (omega))) | (refine lin_v (D' := 255) 7 (p_add Y Y (IntWalk.i64_in _ ?_)) ?_; (focus (omega)))
      refine Zz (l := [8]) ?_
      refine Zy 248 511 [6, 1] [false, true] [(1, (_, _))] rfl Y rfl rfl rfl rfl (Zu [_] Y call70 Y rfl (header_spec (gen + 1) (by omega))) ?hk_1 (fun _ _ h => h.elim) ?hl_1
      case hk_1 =>
       rintro _ _ ⟨rfl, rfl⟩
       refine ⟨Zk (keep_nil), ?_⟩
       refine Zz (l := [9]) ?_
       refine Zy 504 1023 [1] [true] [(1, (_, _))] rfl Y rfl rfl rfl rfl (w_buildSlice (vs := [_]) (cs := [_]) underlying43 sizeOf9 zeroValue9 Y rfl rfl rfl rfl rfl) ?hk_2 (fun _ _ h => h.elim) ?hl_2
       case hk_2 =>
        rintro _ _ ⟨gq, rfl, rfl⟩
        refine ⟨Zk (keep_nil), ?_⟩
        refine Zz (l := [10]) ?_
        refine Zy 1020 2047 [1] [true] [(1, (_, _))] rfl Y rfl rfl rfl rfl (Zw [_, _, _] Y call86 Y rfl (insert_spec h gq ls.length (hdr (gen + 1)) (ls.map itm) (by simp) (by omega))) ?hk_3 no_pan ?hl_3
        case hk_3 =>
         rintro _ _ ⟨_, ⟨si, hi, rfl⟩, rfl⟩
         refine ⟨Zk (keep_nil), ?_⟩
         obtain ⟨gi, ci, rfl⟩ := hi.form
         refine Zz (l := [11]) ?_
         refine Zy 2047 4095 [1] [false] [] rfl Y rfl rfl rfl rfl (Zw [_, _] Y call13 Y rfl (jr_app_any j1 _ np oa sn si sd2 _ (recsOf (gen + 1) ls) Tg zg hwe h3 hJn hR2 hi (by omega) (by unfold recsOf; simp; omega) hish)) ?hk_4 no_pan ?hl_4
         case hk_4 =>
          rintro _ _ ⟨_, ⟨sj1, sd1, rfl, hJ1, hR1, rfl⟩, rfl⟩
          refine ⟨keep_nil, ?_⟩
          refine Zi 8191 12 rfl (p_assign Y) <| lin_nil ?_
          refine Zn [0, 1, 7, 8] ?_
          refine Zx <| Zq <| Zq <| Zg <| Zm Y ?_
          first | refine op_v (p_neq_nat (n := 0) Y Y) ?_ | refine op_v (p_neq Y Y) ?_
          refine Z0 <| Zx ?_
          first | refine at_if Y (fun he => ?_) (fun he => ?_) | refine at_if_bool Y (fun he => ?_) (fun he => ?_)
          ·
           refine Zq <| Zq <| Zg <| Zm Y ?_
           first | refine op_v (p_neq_nat (n := 231) Y Y) ?_ | refine op_v (p_neq Y Y) ?_
           refine Z0 <| Zx ?_
           first | refine at_if Y (fun he2 => ?_) (fun he2 => ?_) | refine at_if_bool Y (fun he2 => ?_) (fun he2 => ?_)
           ·
            refine Zg <| Zm Y <| Zm Y <| Zp Y rfl <| Zh 6 underlying150 rfl rfl sizeOf27 Y <| Ze (Zs sizeOf27 Y Y rfl) ?_
            rintro _ _ ⟨rfl, rfl⟩
            refine Z0 <| Zx <| Zq <| Zg <| Zm Y <| Za Y <| Z0 <| Zx <| at_ret <| Zt ?_
            refine nx_end1 rfl results36 Y (by first | exact ⟨np, _, _, hJ1, hR1, .inl ⟨he, rfl, _, (errS_no he2).symm, rfl⟩⟩ | exact ⟨np, _, _, hJ1, hR1, .inl ⟨he, rfl, _, (errS_full he2).symm, rfl⟩⟩ | exact ⟨o, _, _, hJ, hR2, .inl ⟨he, rfl, _, (errS_no he2).symm, rfl⟩⟩ | exact ⟨o, _, _, hJ, hR2, .inl ⟨he, rfl, _, (errS_full he2).symm, rfl⟩⟩)
           ·
            refine at_skip <| Zx <| Zq <| Zg <| Zm Y <| Za Y <| Z0 <| Zx <| at_ret <| Zt ?_
            refine nx_end1 rfl results36 Y (by first | exact ⟨np, _, _, hJ1, hR1, .inl ⟨he, rfl, _, (errS_no he2).symm, rfl⟩⟩ | exact ⟨np, _, _, hJ1, hR1, .inl ⟨he, rfl, _, (errS_full he2).symm, rfl⟩⟩ | exact ⟨o, _, _, hJ, hR2, .inl ⟨he, rfl, _, (errS_no he2).symm, rfl⟩⟩ | exact ⟨o, _, _, hJ, hR2, .inl ⟨he, rfl, _, (errS_full he2).symm, rfl⟩⟩)
          ·
           refine at_skip <| Zx <| Zq <| at_draw (n := 13) (0 :: 0 :: 0 :: 0 :: 8 :: 24 :: 56 :: 125 :: 253 :: 509 :: 1023 :: 2047 :: 4095 :: []) 4608 (by kernel_rfl) (by kernel_rfl) rfl ?_
           refine Zi 1 0 rfl (p_move Y) <| Zi 3 1 rfl (p_move Y) <| lin_r (D' := 7) 2 rfl rfl rfl (by repeat (first | exact Has.here _ | apply Has.there)) (p_load_agg (cs := #[_, _]) isAgg144 sizeOf144 Y (by first | decide | exact Nat.le_refl _ | (simp; done) | (simp; omega)) (by rfl)) ?_
           refine Zi 15 3 rfl (p_move Y) <| Zi 31 4 rfl (p_nilChk Y rfl) <| Zi 63 5 rfl (p_fieldAddr0 (off := 0) underlying150 rfl rfl sizeOf144 Y) <| lin_r (D' := 127) 6 rfl rfl rfl (by repeat (first | exact Has.here _ | apply Has.there)) (p_load_agg (cs := #[_, _]) isAgg144 sizeOf144 Y (by first | decide | exact Nat.le_refl _ | (simp; done) | (simp; omega)) (by rfl)) ?_
           refine Zi 255 7 rfl (p_nilChk Y rfl) <| Zi 511 8 rfl (p_fieldAddr0 (off := 0) underlying150 rfl rfl sizeOf144 Y) <| Zz (l := [9]) ?_
           refine Zy 509 1023 [6, 2] [false, false] [] rfl Y rfl rfl rfl rfl (w_store_agg sizeOf144 Y Y (by first | (simp [Value.oneCell']; done) | (simp [Value.oneCell', Value.cells]; done)) (by repeat (first | exact Upd.here _ | apply Upd.there)) (by exact (rfl : _ = (#[.pointer (some ⟨np, 0, none⟩), .pointer (some ⟨oa, 0, none⟩), .pointer (some ⟨np, 0, none⟩), .pointer (some ⟨oa, 0, none⟩), .int .i64 (gen : Int), v, .int .i64 0] : Array Value))) (by first | rfl | (simp; done)) (by first | decide | exact Nat.le_refl _ | (simp; done) | (simp; omega)) (by exact free_zero _)) ?hk_7 (fun _ _ h => h.elim) ?hl_7
           case hk_7 =>
            rintro _ _ ⟨rfl, rfl⟩
            refine ⟨keep_nil, ?_⟩
            refine Zi 2047 10 rfl (p_nilChk Y rfl) <| Zi 4095 11 rfl (p_fieldAddr0 (off := 2) underlying150 rfl rfl sizeOf144 Y) <| Zz (l := [12]) ?_
            refine Zy 4095 8191 [] [] [] rfl Y rfl rfl rfl rfl (w_store_agg sizeOf144 Y Y (by first | (simp [Value.oneCell']; done) | (simp [Value.oneCell', Value.cells]; done)) (by repeat (first | exact Upd.here _ | apply Upd.there)) (by exact (rfl : _ = (#[.pointer (some ⟨np, 0, none⟩), .pointer (some ⟨oa, 0, none⟩), .pointer (some ⟨c, 0, none⟩), .pointer (some ⟨ca, 0, none⟩), .int .i64 (gen : Int), v, .int .i64 0] : Array Value))) (by first | rfl | (simp; done)) (by first | decide | exact Nat.le_refl _ | (simp; done) | (simp; omega)) (by exact free_zero _)) ?hk_8 (fun _ _ h => h.elim) ?hl_8
            case hk_8 =>
             rintro _ _ ⟨rfl, rfl⟩
             refine ⟨keep_nil, ?_⟩
             refine lin_nil ?_
             refine Zn [0, 1] ?_
             refine Zx <| Zq <| Zg <| Zm Y <| Zp Y rfl <| Zh 4 underlying150 rfl rfl sizeOf3 Y <| Zl isAgg3 Y ?_
             first | (refine op_v (p_add_nat (n := 1) Y Y ?_) ?_; (focus (omega))) | (refine op_v (p_add Y Y (IntWalk.i64_in _ ?_)) ?_; (focus (omega)))
             refine Zp Y rfl <| Zh 4 underlying150 rfl rfl sizeOf3 Y <| Ze (Zs sizeOf3 Y Y rfl (hc := by exact (rfl : _ = (#[.pointer (some ⟨np, 0, none⟩), .pointer (some ⟨oa, 0, none⟩), .pointer (some ⟨c, 0, none⟩), .pointer (some ⟨ca, 0, none⟩), .int .i64 ((gen + 1 : Nat) : Int), v, .int .i64 0] : Array Value)))) ?_
             rintro _ _ ⟨rfl, rfl⟩
             refine Z0 <| Zx <| Zq <| Zg <| Zm Y <| Zm Y <| Zc [_] Y call55 Y rfl (clone_spec _ ls sl hl (by omega)) ?_
             rintro _ _ ⟨_, ⟨sv, hv, rfl⟩, rfl⟩
             obtain ⟨gv, cv, rfl⟩ := hv.form
             refine Zp Y rfl <| Zh 5 underlying150 rfl rfl sizeOf43 Y <| Ze (Zs sizeOf43 Y Y rfl) ?_
             rintro _ _ ⟨rfl, rfl⟩
             refine Z0 <| Zn [] ?_
             refine Zx <| Zq <| Zg <| Za Y <| Z0 <| Zx <| at_ret ?_
             refine nx_end1 rfl results36 Y (by exact ⟨np, _, _, hJ1, hR1, .inr ⟨Classical.not_not.1 he, rfl, _, sv, hv, rfl⟩⟩)
            case hl_8 =>
             exact each_nil
           case hl_7 =>
            exact each_nil
         case hl_4 =>
          exact each_nil
        case hl_3 =>
         exact each_nil
       case hl_2 =>
        exact each_nil
      case hl_1 =>
       exact each_nil
     ·
      have hx : (ersS j d).2.1 = none := by
        rcases ers_code j d with ⟨j1, _, h9⟩ | ⟨h9, _⟩
        · exact absurd h9 hq3
        · exact h9
      rw [cptS_none hx]
      refine at_skip <| Zx <| Zq <| Zq <| Zg <| Zm Y ?_
      first | refine op_v (p_neq_nat (n := 0) Y Y) ?_ | refine op_v (p_neq Y Y) ?_
      refine Z0 <| Zx ?_
      first | refine at_if Y (fun he => ?_) (fun he => ?_) | refine at_if_bool Y (fun he => ?_) (fun he => ?_)
      ·
       refine Zq <| Zq <| Zg <| Zm Y ?_
       first | refine op_v (p_neq_nat (n := 231) Y Y) ?_ | refine op_v (p_neq Y Y) ?_
       refine Z0 <| Zx ?_
       first | refine at_if Y (fun he2 => ?_) (fun he2 => ?_) | refine at_if_bool Y (fun he2 => ?_) (fun he2 => ?_)
       ·
        refine Zg <| Zm Y <| Zm Y <| Zp Y rfl <| Zh 6 underlying150 rfl rfl sizeOf27 Y <| Ze (Zs sizeOf27 Y Y rfl) ?_
        rintro _ _ ⟨rfl, rfl⟩
        refine Z0 <| Zx <| Zq <| Zg <| Zm Y <| Za Y <| Z0 <| Zn [4] ?_
        refine Zx <| at_ret <| Zt ?_
        refine nx_end1 rfl results36 Y (by first | exact ⟨np, _, _, hJ1, hR1, .inl ⟨he, rfl, _, (errS_no he2).symm, rfl⟩⟩ | exact ⟨np, _, _, hJ1, hR1, .inl ⟨he, rfl, _, (errS_full he2).symm, rfl⟩⟩ | exact ⟨o, _, _, hJ, hR2, .inl ⟨he, rfl, _, (errS_no he2).symm, rfl⟩⟩ | exact ⟨o, _, _, hJ, hR2, .inl ⟨he, rfl, _, (errS_full he2).symm, rfl⟩⟩)
       ·
        refine at_skip <| Zx <| Zq <| Zg <| Zm Y <| Za Y <| Z0 <| Zx <| at_ret <| Zt ?_
        refine nx_end1 rfl results36 Y (by first | exact ⟨np, _, _, hJ1, hR1, .inl ⟨he, rfl, _, (errS_no he2).symm, rfl⟩⟩ | exact ⟨np, _, _, hJ1, hR1, .inl ⟨he, rfl, _, (errS_full he2).symm, rfl⟩⟩ | exact ⟨o, _, _, hJ, hR2, .inl ⟨he, rfl, _, (errS_no he2).symm, rfl⟩⟩ | exact ⟨o, _, _, hJ, hR2, .inl ⟨he, rfl, _, (errS_full he2).symm, rfl⟩⟩)
      ·
       exact absurd (Classical.not_not.1 he) hq3

theorem perm_cnt {l l' : List Chunk} (h : ∀ p : Chunk → Bool, l.countP p = l'.countP p) : l.Perm l' := by
  letI : DecidableEq Chunk := fun a b => Classical.propDecidable (a = b)
  exact List.perm_iff_count.2 fun a => h _
theorem CoOk.big {n1 n2 k : Nat} {c : Core} {da db : DiskS} (h : CoOk n1 n2 k c da db) (h1 : n1 ≤ 4194304) (h2 : n2 ≤ 4194304) : c.its.length ≤ 4194304 := by
  have hl := h.ln
  have ha := h.wa.jr _ rfl
  have hb := h.wb.jr _ rfl
  unfold Core.cur at hl
  split at hl <;> omega
theorem core_app (c : Core) (sp a b n1 n2 k : Nat) (da db : DiskS) (ss sr sja sjb sda sdb sl : List Chunk) (vl : Value) (ls : List (List UInt8)) (Tg : TypeId) (zg : Nat × Nat) (hC : CoOk n1 n2 k c da db) (h1 : n1 ≤ 4194304) (h2 : n2 ≤ 4194304) (hk : k ≤ 900000) (hR : CoR c sp a b ss sr sja sjb) (hRa : DiskR da a sda) (hRb : DiskR db b sdb) (hl : SubV vl (ls.map strV) sl) (hn : ls.length ≤ 1000000) (hb : ls.any isBig = false) :
    Does Tryz.prog 38 #[.pointer (some ⟨sp, 0, none⟩), vl] [ss, sr, sja, sjb, sda, sdb, sl, [(4, .cells (kTab.map u32v).toArray Tg zg)]] (fun r H' => ∃ ss' sr' sja' sjb' sda' sdb', r = .int .i64 (c.app da db ls).1 ∧ CoR (c.app da db ls).2.1 sp a b ss' sr' sja' sjb' ∧ DiskR (c.app da db ls).2.2.1 a sda' ∧ DiskR (c.app da db ls).2.2.2 b sdb' ∧ H' = [ss', sr', sja', sjb', sda', sdb', sl, [(4, .cells (kTab.map u32v).toArray Tg zg)]]) := by
  have hi := hC.big h1 h2
  obtain ⟨ja, jb, sw, gen, its, err⟩ := c
  obtain ⟨ap, bp, v, cs, hJa, hJb, hrow, hcs, rfl⟩ := hR
  cases sw with
  | true =>
    have hcs : cs = #[.pointer (some ⟨bp, 0, none⟩), .pointer (some ⟨b, 0, none⟩), .pointer (some ⟨ap, 0, none⟩), .pointer (some ⟨a, 0, none⟩), .int .i64 (gen : Int), v, .int .i64 (err)] := hcs
    subst hcs
    refine does_perm (does_frame (sapp_on sp bp b ap a gen n2 k v vl err its ls sr sl sjb sdb jb db Tg zg hrow hl hi hn hb hC.wb h2 hk hJb hRb) [sja, sda] rfl) ?_ ?_
    · (refine perm_cnt fun p => ?_; simp only [List.flatten_cons, List.flatten_nil, List.flatten_append, List.countP_append, List.countP_nil, List.append_nil]; omega)
    · rintro r _ ⟨H2, ⟨v', sr', sc', sca', rfl, hj, hd, hr, rfl⟩, rfl⟩
      refine ⟨_, ⟨[(sp, .cells #[.pointer (some ⟨bp, 0, none⟩), .pointer (some ⟨b, 0, none⟩), .pointer (some ⟨ap, 0, none⟩), .pointer (some ⟨a, 0, none⟩), .int .i64 (gen : Int), v', .int .i64 (err)] 150 (0, 0))], sr', sja, sc', sda, sca', rfl, ⟨ap, bp, v', _, hJa, hj, hr, rfl, rfl⟩, hRa, hd, rfl⟩, ?_⟩
      (refine perm_cnt fun p => ?_; simp only [List.flatten_cons, List.flatten_nil, List.flatten_append, List.countP_append, List.countP_nil, List.append_nil]; omega)
  | false =>
    have hcs : cs = #[.pointer (some ⟨ap, 0, none⟩), .pointer (some ⟨a, 0, none⟩), .pointer (some ⟨bp, 0, none⟩), .pointer (some ⟨b, 0, none⟩), .int .i64 (gen : Int), v, .int .i64 (err)] := hcs
    subst hcs
    refine does_perm (does_frame (sapp_on sp ap a bp b gen n1 k v vl err its ls sr sl sja sda ja da Tg zg hrow hl hi hn hb hC.wa h1 hk hJa hRa) [sjb, sdb] rfl) ?_ ?_
    · (refine perm_cnt fun p => ?_; simp only [List.flatten_cons, List.flatten_nil, List.flatten_append, List.countP_append, List.countP_nil, List.append_nil]; omega)
    · rintro r _ ⟨H2, ⟨v', sr', sc', sca', rfl, hj, hd, hr, rfl⟩, rfl⟩
      refine ⟨_, ⟨[(sp, .cells #[.pointer (some ⟨ap, 0, none⟩), .pointer (some ⟨a, 0, none⟩), .pointer (some ⟨bp, 0, none⟩), .pointer (some ⟨b, 0, none⟩), .int .i64 (gen : Int), v', .int .i64 (err)] 150 (0, 0))], sr', sc', sjb, sca', sdb, rfl, ⟨ap, bp, v', _, hj, hJb, hr, rfl, rfl⟩, hd, hRb, rfl⟩, ?_⟩
      (refine perm_cnt fun p => ?_; simp only [List.flatten_cons, List.flatten_nil, List.flatten_append, List.countP_append, List.countP_nil, List.append_nil]; omega)
theorem Core.cpt_max {c : Core} {da db : DiskS} {ls : List (List UInt8)} (hg : 1000000000 ≤ c.gen) : c.cpt da db ls = (240, c, da, db) := by unfold Core.cpt; rw [if_pos (.inr hg)]
theorem Core.cpt_err {c : Core} {da db : DiskS} {ls : List (List UInt8)} (hb : ls.any isBig = false) (hg : c.gen < 1000000000) (he : c.err ≠ 0) : c.cpt da db ls = (c.err, c, da, db) := by unfold Core.cpt; rw [if_neg (by rw [hb]; simp; omega), if_pos he]
theorem Core.cpt_a {ja jb : JrS} {gen : Nat} {its : List (List UInt8)} {da db : DiskS} {ls : List (List UInt8)} (hb : ls.any isBig = false) (hg : gen < 1000000000) : Core.cpt ⟨ja, jb, true, gen, its, 0⟩ da db ls = if (cptS ja da gen ls).1 ≠ 0 then ((cptS ja da gen ls).1, ⟨(cptS ja da gen ls).2.1, jb, true, gen, its, errS (cptS ja da gen ls).1⟩, (cptS ja da gen ls).2.2, db) else (0, ⟨(cptS ja da gen ls).2.1, jb, false, gen + 1, ls, 0⟩, (cptS ja da gen ls).2.2, db) := by
  unfold Core.cpt
  rw [if_neg (by rw [hb]; simp; omega), if_neg (by simp)]
  rfl
theorem Core.cpt_b {ja jb : JrS} {gen : Nat} {its : List (List UInt8)} {da db : DiskS} {ls : List (List UInt8)} (hb : ls.any isBig = false) (hg : gen < 1000000000) : Core.cpt ⟨ja, jb, false, gen, its, 0⟩ da db ls = if (cptS jb db gen ls).1 ≠ 0 then ((cptS jb db gen ls).1, ⟨ja, (cptS jb db gen ls).2.1, false, gen, its, errS (cptS jb db gen ls).1⟩, da, (cptS jb db gen ls).2.2) else (0, ⟨ja, (cptS jb db gen ls).2.1, true, gen + 1, ls, 0⟩, da, (cptS jb db gen ls).2.2) := by
  unfold Core.cpt
  rw [if_neg (by rw [hb]; simp; omega), if_neg (by simp)]
  rfl
theorem core_cpt (c : Core) (sp a b n1 n2 k : Nat) (da db : DiskS) (ss sr sja sjb sda sdb sl : List Chunk) (vl : Value) (ls : List (List UInt8)) (pa : Addr) (Tx Tg : TypeId) (zx zg : Nat × Nat) (hC : CoOk n1 n2 k c da db) (h0 : 1 ≤ n1) (h1 : n1 ≤ 4194304) (h00 : 1 ≤ n2) (h2 : n2 ≤ 4194304) (hk : k ≤ 900000) (hR : CoR c sp a b ss sr sja sjb) (hRa : DiskR da a sda) (hRb : DiskR db b sdb) (hl : Row 9 vl (ls.map strV) sl) (hn : ls.length ≤ 900000) (hb : ls.any isBig = false) :
    Does Tryz.prog 36 #[.pointer (some ⟨sp, 0, none⟩), vl] [ss, sr, sja, sjb, sda, sdb, sl, [(4, .cells (kTab.map u32v).toArray Tg zg)], [(0, .cells #[.iface 299 (.pointer (some pa))] Tx zx)]] (fun r H' => ∃ ss' sr' sja' sjb' sda' sdb', r = .int .i64 (c.cpt da db ls).1 ∧ CoR (c.cpt da db ls).2.1 sp a b ss' sr' sja' sjb' ∧ DiskR (c.cpt da db ls).2.2.1 a sda' ∧ DiskR (c.cpt da db ls).2.2.2 b sdb' ∧ H' = [ss', sr', sja', sjb', sda', sdb', sl, [(4, .cells (kTab.map u32v).toArray Tg zg)], [(0, .cells #[.iface 299 (.pointer (some pa))] Tx zx)]]) := by
  rcases Nat.lt_or_ge c.gen 1000000000 with hg | hg
  case inr =>
    rw [Core.cpt_max hg]
    have hR2 := hR
    obtain ⟨ja, jb, sw, gen, its, err⟩ := c
    obtain ⟨ap, bp, v, cs, hJa, hJb, hrow, hcs, rfl⟩ := hR2
    cases sw with
    | true =>
      have hcs : cs = #[.pointer (some ⟨bp, 0, none⟩), .pointer (some ⟨b, 0, none⟩), .pointer (some ⟨ap, 0, none⟩), .pointer (some ⟨a, 0, none⟩), .int .i64 (gen : Int), v, .int .i64 (err)] := hcs
      subst hcs
      refine does_perm (does_frame (scpt_max sp bp b ap a gen v vl err ls sl hl hn hb hg) [sr, sja, sjb, sda, sdb, [(4, .cells (kTab.map u32v).toArray Tg zg)], [(0, .cells #[.iface 299 (.pointer (some pa))] Tx zx)]] rfl) ?_ ?_
      · (refine perm_cnt fun p => ?_; simp only [List.flatten_cons, List.flatten_nil, List.flatten_append, List.countP_append, List.countP_nil, List.append_nil]; omega)
      · rintro r _ ⟨H2, ⟨rfl, rfl⟩, rfl⟩
        refine ⟨_, ⟨[(sp, .cells _ _)], _, _, _, _, _, rfl, hR, hRa, hRb, rfl⟩, ?_⟩
        (refine perm_cnt fun p => ?_; simp only [List.flatten_cons, List.flatten_nil, List.flatten_append, List.countP_append, List.countP_nil, List.append_nil]; omega)
    | false =>
      have hcs : cs = #[.pointer (some ⟨ap, 0, none⟩), .pointer (some ⟨a, 0, none⟩), .pointer (some ⟨bp, 0, none⟩), .pointer (some ⟨b, 0, none⟩), .int .i64 (gen : Int), v, .int .i64 (err)] := hcs
      subst hcs
      refine does_perm (does_frame (scpt_max sp ap a bp b gen v vl err ls sl hl hn hb hg) [sr, sja, sjb, sda, sdb, [(4, .cells (kTab.map u32v).toArray Tg zg)], [(0, .cells #[.iface 299 (.pointer (some pa))] Tx zx)]] rfl) ?_ ?_
      · (refine perm_cnt fun p => ?_; simp only [List.flatten_cons, List.flatten_nil, List.flatten_append, List.countP_append, List.countP_nil, List.append_nil]; omega)
      · rintro r _ ⟨H2, ⟨rfl, rfl⟩, rfl⟩
        refine ⟨_, ⟨[(sp, .cells _ _)], _, _, _, _, _, rfl, hR, hRa, hRb, rfl⟩, ?_⟩
        (refine perm_cnt fun p => ?_; simp only [List.flatten_cons, List.flatten_nil, List.flatten_append, List.countP_append, List.countP_nil, List.append_nil]; omega)
  by_cases he : c.err ≠ 0
  · rw [Core.cpt_err hb hg he]
    have hR2 := hR
    obtain ⟨ja, jb, sw, gen, its, err⟩ := c
    obtain ⟨ap, bp, v, cs, hJa, hJb, hrow, hcs, rfl⟩ := hR2
    cases sw with
    | true =>
      have hcs : cs = #[.pointer (some ⟨bp, 0, none⟩), .pointer (some ⟨b, 0, none⟩), .pointer (some ⟨ap, 0, none⟩), .pointer (some ⟨a, 0, none⟩), .int .i64 (gen : Int), v, .int .i64 (err)] := hcs
      subst hcs
      refine does_perm (does_frame (scpt_err sp bp b ap a gen v vl err ls sl hl hn hb hg he) [sr, sja, sjb, sda, sdb, [(4, .cells (kTab.map u32v).toArray Tg zg)], [(0, .cells #[.iface 299 (.pointer (some pa))] Tx zx)]] rfl) ?_ ?_
      · (refine perm_cnt fun p => ?_; simp only [List.flatten_cons, List.flatten_nil, List.flatten_append, List.countP_append, List.countP_nil, List.append_nil]; omega)
      · rintro r _ ⟨H2, ⟨rfl, rfl⟩, rfl⟩
        refine ⟨_, ⟨[(sp, .cells _ _)], _, _, _, _, _, rfl, hR, hRa, hRb, rfl⟩, ?_⟩
        (refine perm_cnt fun p => ?_; simp only [List.flatten_cons, List.flatten_nil, List.flatten_append, List.countP_append, List.countP_nil, List.append_nil]; omega)
    | false =>
      have hcs : cs = #[.pointer (some ⟨ap, 0, none⟩), .pointer (some ⟨a, 0, none⟩), .pointer (some ⟨bp, 0, none⟩), .pointer (some ⟨b, 0, none⟩), .int .i64 (gen : Int), v, .int .i64 (err)] := hcs
      subst hcs
      refine does_perm (does_frame (scpt_err sp ap a bp b gen v vl err ls sl hl hn hb hg he) [sr, sja, sjb, sda, sdb, [(4, .cells (kTab.map u32v).toArray Tg zg)], [(0, .cells #[.iface 299 (.pointer (some pa))] Tx zx)]] rfl) ?_ ?_
      · (refine perm_cnt fun p => ?_; simp only [List.flatten_cons, List.flatten_nil, List.flatten_append, List.countP_append, List.countP_nil, List.append_nil]; omega)
      · rintro r _ ⟨H2, ⟨rfl, rfl⟩, rfl⟩
        refine ⟨_, ⟨[(sp, .cells _ _)], _, _, _, _, _, rfl, hR, hRa, hRb, rfl⟩, ?_⟩
        (refine perm_cnt fun p => ?_; simp only [List.flatten_cons, List.flatten_nil, List.flatten_append, List.countP_append, List.countP_nil, List.append_nil]; omega)
  · obtain ⟨ja, jb, sw, gen, its, err⟩ := c
    have he : err = 0 := Classical.not_not.1 he
    subst he
    obtain ⟨ap, bp, v, cs, hJa, hJb, hrow, hcs, rfl⟩ := hR
    cases sw with
    | true =>
      have hcs : cs = #[.pointer (some ⟨bp, 0, none⟩), .pointer (some ⟨b, 0, none⟩), .pointer (some ⟨ap, 0, none⟩), .pointer (some ⟨a, 0, none⟩), .int .i64 (gen : Int), v, .int .i64 (0)] := hcs
      subst hcs
      rw [Core.cpt_a hb hg]
      refine does_perm (does_frame (scpt_on sp bp b ap a gen n1 k v vl its ls sr sl sja sda ja da pa Tx Tg zx zg hrow hl hn hb hg hC.wa h0 h1 hk hJa hRa) [sjb, sdb] rfl) ?_ ?_
      · (refine perm_cnt fun p => ?_; simp only [List.flatten_cons, List.flatten_nil, List.flatten_append, List.countP_append, List.countP_nil, List.append_nil]; omega)
      · rintro r _ ⟨H2, ⟨np, so', soa', hj, hd, ⟨h5, rfl, e2, rfl, rfl⟩ | ⟨h5, rfl, v', sr', hr, rfl⟩⟩, rfl⟩
        · rw [if_pos h5]
          refine ⟨_, ⟨[(sp, .cells #[.pointer (some ⟨bp, 0, none⟩), .pointer (some ⟨b, 0, none⟩), .pointer (some ⟨np, 0, none⟩), .pointer (some ⟨a, 0, none⟩), .int .i64 (gen : Int), v, .int .i64 (errS (cptS ja da gen ls).1)] 150 (0, 0))], sr, so', sjb, soa', sdb, rfl, ⟨np, bp, v, _, hj, hJb, hrow, rfl, rfl⟩, hd, hRb, rfl⟩, ?_⟩
          (refine perm_cnt fun p => ?_; simp only [List.flatten_cons, List.flatten_nil, List.flatten_append, List.countP_append, List.countP_nil, List.append_nil]; omega)
        · rw [if_neg (by rw [h5]; simp)]
          refine ⟨_, ⟨[(sp, .cells #[.pointer (some ⟨np, 0, none⟩), .pointer (some ⟨a, 0, none⟩), .pointer (some ⟨bp, 0, none⟩), .pointer (some ⟨b, 0, none⟩), .int .i64 ((gen + 1 : Nat) : Int), v', .int .i64 (0)] 150 (0, 0))], sr', so', sjb, soa', sdb, rfl, ⟨np, bp, v', _, hj, hJb, hr, rfl, rfl⟩, hd, hRb, rfl⟩, ?_⟩
          (refine perm_cnt fun p => ?_; simp only [List.flatten_cons, List.flatten_nil, List.flatten_append, List.countP_append, List.countP_nil, List.append_nil]; omega)
    | false =>
      have hcs : cs = #[.pointer (some ⟨ap, 0, none⟩), .pointer (some ⟨a, 0, none⟩), .pointer (some ⟨bp, 0, none⟩), .pointer (some ⟨b, 0, none⟩), .int .i64 (gen : Int), v, .int .i64 (0)] := hcs
      subst hcs
      rw [Core.cpt_b hb hg]
      refine does_perm (does_frame (scpt_on sp ap a bp b gen n2 k v vl its ls sr sl sjb sdb jb db pa Tx Tg zx zg hrow hl hn hb hg hC.wb h00 h2 hk hJb hRb) [sja, sda] rfl) ?_ ?_
      · (refine perm_cnt fun p => ?_; simp only [List.flatten_cons, List.flatten_nil, List.flatten_append, List.countP_append, List.countP_nil, List.append_nil]; omega)
      · rintro r _ ⟨H2, ⟨np, so', soa', hj, hd, ⟨h5, rfl, e2, rfl, rfl⟩ | ⟨h5, rfl, v', sr', hr, rfl⟩⟩, rfl⟩
        · rw [if_pos h5]
          refine ⟨_, ⟨[(sp, .cells #[.pointer (some ⟨ap, 0, none⟩), .pointer (some ⟨a, 0, none⟩), .pointer (some ⟨np, 0, none⟩), .pointer (some ⟨b, 0, none⟩), .int .i64 (gen : Int), v, .int .i64 (errS (cptS jb db gen ls).1)] 150 (0, 0))], sr, sja, so', sda, soa', rfl, ⟨ap, np, v, _, hJa, hj, hrow, rfl, rfl⟩, hRa, hd, rfl⟩, ?_⟩
          (refine perm_cnt fun p => ?_; simp only [List.flatten_cons, List.flatten_nil, List.flatten_append, List.countP_append, List.countP_nil, List.append_nil]; omega)
        · rw [if_neg (by rw [h5]; simp)]
          refine ⟨_, ⟨[(sp, .cells #[.pointer (some ⟨np, 0, none⟩), .pointer (some ⟨b, 0, none⟩), .pointer (some ⟨ap, 0, none⟩), .pointer (some ⟨a, 0, none⟩), .int .i64 ((gen + 1 : Nat) : Int), v', .int .i64 (0)] 150 (0, 0))], sr', sja, so', sda, soa', rfl, ⟨ap, np, v', _, hJa, hj, hr, rfl, rfl⟩, hRa, hd, rfl⟩, ?_⟩
          (refine perm_cnt fun p => ?_; simp only [List.flatten_cons, List.flatten_nil, List.flatten_append, List.countP_append, List.countP_nil, List.append_nil]; omega)

theorem sitems_any (sp : Nat) (x0 x1 x2 x3 x4 v x6 : Value) (its : List (List UInt8)) (sr : List Chunk) (hrow : Row 9 v (its.map strV) sr) (hn : its.length ≤ 4194304) : Does Tryz.prog 26 #[.pointer (some ⟨sp, 0, none⟩)] [[(sp, .cells #[x0, x1, x2, x3, x4, v, x6] 150 (0, 0))], sr] (fun r H' => ∃ sv, Row 9 r (its.map strV) sv ∧ H' = [[(sp, .cells #[x0, x1, x2, x3, x4, v, x6] 150 (0, 0))], sr, sv]) := by
 refine spec_enter func26 rfl ntmps26 rfl ?_
 intro u R
 refine Zb [0] ?_
 refine Zq <| Zg <| Za Y <| Z0 <| Zx <| Zq <| Zq <| Zg <| Zm Y ?_
 first | refine op_v (p_eql_nil_nil underlying57 Y Y) ?_ | refine op_v (p_eql_ptr_nil underlying57 Y Y) ?_
 refine Z0 <| Zx ?_
 refine at_if_bool Y (fun hc1 => ?_) (fun hc1 => ?_)
 ·
  cases hc1
 ·
  refine at_skip <| Zx <| Zq <| Zg <| Zm Y <| Zp Y rfl <| Zh 5 underlying150 rfl rfl sizeOf43 Y <| Zl isAgg43 Y ?_
  refine Zc [_] Y call55 Y rfl (clone_spec _ its sr hrow (by omega)) ?_
  rintro _ _ ⟨_, ⟨sv, hv, rfl⟩, rfl⟩
  refine Za Y <| Z0 <| Zx <| at_ret ?_
  refine nx_end1 rfl results26 Y (by exact ⟨sv, hv, rfl⟩)

theorem sgen_any (sp : Nat) (x0 x1 x2 x3 v x6 : Value) (g : Int) : DoesR Tryz.prog 27 #[.pointer (some ⟨sp, 0, none⟩)] [[(sp, .cells #[x0, x1, x2, x3, .int .i64 g, v, x6] 150 (0, 0))]] (.int .i64 g) := by
 refine spec_enter func27 rfl ntmps27 rfl ?_
 intro u R
 refine Zb [0] ?_
 refine Zq <| Zg <| Za Y <| Z0 <| Zx <| Zq <| Zq <| Zg <| Zm Y ?_
 first | refine op_v (p_eql_nil_nil underlying57 Y Y) ?_ | refine op_v (p_eql_ptr_nil underlying57 Y Y) ?_
 refine Z0 <| Zx ?_
 refine at_if_bool Y (fun hc1 => ?_) (fun hc1 => ?_)
 ·
  cases hc1
 ·
  refine at_skip <| Zx <| Zq <| Zg <| Zm Y <| Zp Y rfl <| Zh 4 underlying150 rfl rfl sizeOf3 Y <| Zl isAgg3 Y ?_
  refine Za Y <| Z0 <| Zx <| at_ret ?_
  refine nx_end1 rfl results27 Y (by exact ⟨rfl, rfl⟩)

theorem sroom_any (sp c ca : Nat) (x1 x2 x3 x4 v x6 : Value) (j : JrS) (d : DiskS) (sc sca : List Chunk) (hJ : JrR j c ca sc) (hR : DiskR d ca sca) (hz : j.sz ≤ d.vi.length) : DoesR Tryz.prog 28 #[.pointer (some ⟨sp, 0, none⟩)] [[(sp, .cells #[.pointer (some ⟨c, 0, none⟩), x1, x2, x3, x4, v, x6] 150 (0, 0))], sc, sca] (.int .i64 ((d.vi.length : Int) - (j.sz : Int))) := by
 refine spec_enter func28 rfl ntmps28 rfl ?_
 intro u R
 refine Zb [0] ?_
 refine Zq <| Zg <| Za Y <| Z0 <| Zx <| Zq <| Zq <| Zg <| Zm Y ?_
 first | refine op_v (p_eql_nil_nil underlying57 Y Y) ?_ | refine op_v (p_eql_ptr_nil underlying57 Y Y) ?_
 refine Z0 <| Zx ?_
 refine at_if_bool Y (fun hc1 => ?_) (fun hc1 => ?_)
 ·
  cases hc1
 ·
  refine at_skip <| Zx <| Zq <| Zg <| Zm Y <| Zp Y rfl <| Zh 0 underlying150 rfl rfl sizeOf144 Y <| Zv (p_fieldAddr1 (off := 0) underlying144 rfl rfl sizeOf30 Y) <| Zl isAgg30 Y ?_
  refine Zr [_] Y call17 Y rfl (jr_room j d c ca sc sca hJ hR hz) ?_
  rintro _ _ ⟨rfl, rfl⟩
  refine Za Y <| Z0 <| Zx <| at_ret ?_
  refine nx_end1 rfl results28 Y (by exact ⟨rfl, rfl⟩)

def Core.room (c : Core) (da db : DiskS) : Int := if c.sw then (db.vi.length : Int) - (c.jb.sz : Int) else (da.vi.length : Int) - (c.ja.sz : Int)
theorem core_items (c : Core) (sp a b : Nat) (ss sr sja sjb : List Chunk) (hn : c.its.length ≤ 4194304) (hR : CoR c sp a b ss sr sja sjb) :
    Does Tryz.prog 26 #[.pointer (some ⟨sp, 0, none⟩)] [ss, sr] (fun r H' => ∃ sv, Row 9 r (c.its.map strV) sv ∧ H' = [ss, sr, sv]) := by
  obtain ⟨ja, jb, sw, gen, its, err⟩ := c
  obtain ⟨ap, bp, v, cs, hJa, hJb, hrow, hcs, rfl⟩ := hR
  cases sw with
  | true =>
    have hcs : cs = #[.pointer (some ⟨bp, 0, none⟩), .pointer (some ⟨b, 0, none⟩), .pointer (some ⟨ap, 0, none⟩), .pointer (some ⟨a, 0, none⟩), .int .i64 (gen : Int), v, .int .i64 (err)] := hcs
    subst hcs
    exact sitems_any sp _ _ _ _ _ v _ its sr hrow hn
  | false =>
    have hcs : cs = #[.pointer (some ⟨ap, 0, none⟩), .pointer (some ⟨a, 0, none⟩), .pointer (some ⟨bp, 0, none⟩), .pointer (some ⟨b, 0, none⟩), .int .i64 (gen : Int), v, .int .i64 (err)] := hcs
    subst hcs
    exact sitems_any sp _ _ _ _ _ v _ its sr hrow hn
theorem core_gen (c : Core) (sp a b : Nat) (ss sr sja sjb : List Chunk) (hR : CoR c sp a b ss sr sja sjb) :
    DoesR Tryz.prog 27 #[.pointer (some ⟨sp, 0, none⟩)] [ss] (.int .i64 (c.gen : Int)) := by
  obtain ⟨ja, jb, sw, gen, its, err⟩ := c
  obtain ⟨ap, bp, v, cs, hJa, hJb, hrow, hcs, rfl⟩ := hR
  cases sw with
  | true =>
    have hcs : cs = #[.pointer (some ⟨bp, 0, none⟩), .pointer (some ⟨b, 0, none⟩), .pointer (some ⟨ap, 0, none⟩), .pointer (some ⟨a, 0, none⟩), .int .i64 (gen : Int), v, .int .i64 (err)] := hcs
    subst hcs
    exact sgen_any sp _ _ _ _ v _ gen
  | false =>
    have hcs : cs = #[.pointer (some ⟨ap, 0, none⟩), .pointer (some ⟨a, 0, none⟩), .pointer (some ⟨bp, 0, none⟩), .pointer (some ⟨b, 0, none⟩), .int .i64 (gen : Int), v, .int .i64 (err)] := hcs
    subst hcs
    exact sgen_any sp _ _ _ _ v _ gen
theorem core_room (c : Core) (sp a b n1 n2 k : Nat) (da db : DiskS) (ss sr sja sjb sda sdb : List Chunk) (hC : CoOk n1 n2 k c da db) (hR : CoR c sp a b ss sr sja sjb) (hRa : DiskR da a sda) (hRb : DiskR db b sdb) :
    DoesR Tryz.prog 28 #[.pointer (some ⟨sp, 0, none⟩)] [ss, sja, sjb, sda, sdb] (.int .i64 (c.room da db)) := by
  obtain ⟨ja, jb, sw, gen, its, err⟩ := c
  obtain ⟨ap, bp, v, cs, hJa, hJb, hrow, hcs, rfl⟩ := hR
  cases sw with
  | true =>
    have hcs : cs = #[.pointer (some ⟨bp, 0, none⟩), .pointer (some ⟨b, 0, none⟩), .pointer (some ⟨ap, 0, none⟩), .pointer (some ⟨a, 0, none⟩), .int .i64 (gen : Int), v, .int .i64 (err)] := hcs
    subst hcs
    refine does_perm (does_frame (sroom_any sp bp b (.pointer (some ⟨b, 0, none⟩)) (.pointer (some ⟨ap, 0, none⟩)) (.pointer (some ⟨a, 0, none⟩)) (.int .i64 (gen : Int)) v (.int .i64 err) jb db sjb sdb hJb hRb (by have := hC.wb.len; have := (hC.wb.jr _ rfl).1; simp only at *; omega)) [sja, sda] rfl) ?_ ?_
    · (refine perm_cnt fun p => ?_; simp only [List.flatten_cons, List.flatten_nil, List.flatten_append, List.countP_append, List.countP_nil, List.append_nil]; omega)
    · rintro r _ ⟨H2, ⟨rfl, rfl⟩, rfl⟩
      refine ⟨_, ⟨rfl, rfl⟩, ?_⟩
      (refine perm_cnt fun p => ?_; simp only [List.flatten_cons, List.flatten_nil, List.flatten_append, List.countP_append, List.countP_nil, List.append_nil]; omega)
  | false =>
    have hcs : cs = #[.pointer (some ⟨ap, 0, none⟩), .pointer (some ⟨a, 0, none⟩), .pointer (some ⟨bp, 0, none⟩), .pointer (some ⟨b, 0, none⟩), .int .i64 (gen : Int), v, .int .i64 (err)] := hcs
    subst hcs
    refine does_perm (does_frame (sroom_any sp ap a (.pointer (some ⟨a, 0, none⟩)) (.pointer (some ⟨bp, 0, none⟩)) (.pointer (some ⟨b, 0, none⟩)) (.int .i64 (gen : Int)) v (.int .i64 err) ja da sja sda hJa hRa (by have := hC.wa.len; have := (hC.wa.jr _ rfl).1; simp only at *; omega)) [sjb, sdb] rfl) ?_ ?_
    · (refine perm_cnt fun p => ?_; simp only [List.flatten_cons, List.flatten_nil, List.flatten_append, List.countP_append, List.countP_nil, List.append_nil]; omega)
    · rintro r _ ⟨H2, ⟨rfl, rfl⟩, rfl⟩
      refine ⟨_, ⟨rfl, rfl⟩, ?_⟩
      (refine perm_cnt fun p => ?_; simp only [List.flatten_cons, List.flatten_nil, List.flatten_append, List.countP_append, List.countP_nil, List.append_nil]; omega)

end Go.Proofs.YthbadolcncojbaaGreatDoor
