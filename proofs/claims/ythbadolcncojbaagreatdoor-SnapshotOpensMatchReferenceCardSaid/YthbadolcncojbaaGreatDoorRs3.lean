/- The reference of layer 24: header, read, items, Open. The reference of layer 24: Room, Append, replace, Compact. The reference of layer 24: Compact, Open. -/
import Derived.Test.YthbadolcncojbaaGreatDoorEz
import Derived.Test.YthbadolcncojbaaGreatDoorGs4
import Derived.Test.YthbadolcncojbaaGreatDoorRj2

namespace Go.Proofs.YthbadolcncojbaaGreatDoor
open Go.Proofs.Tryz
open Go Go.RowKit Gw
set_option linter.unusedVariables false
set_option maxRecDepth 100000
attribute [local irreducible] Gw.At Gw.Nx Gw.Ops
/-- The index of the current journal. -/
def swI (sw : Bool) : Nat := if sw then 1 else 0
theorem swI_le (sw : Bool) : swI sw ≤ 1 := by cases sw <;> decide
/-- The cells of a store of the reference: the current journal p, the other one q. -/
def koC (sw : Bool) (p q : Value) (gen : Nat) (v : Value) (err : Int) : Array Value :=
  if sw then #[q, p, .int .i64 ((swI sw : Nat) : Int), .int .i64 (gen : Int), v, .int .i64 err] else #[p, q, .int .i64 ((swI sw : Nat) : Int), .int .i64 (gen : Int), v, .int .i64 err]
theorem itm_bad {t : List (List UInt8)} {j : Nat} {y : List UInt8} {its : List (List UInt8)} (hy : t[j]? = some y) (h : (t.take j).foldl itmS (true, []) = (true, its)) (hb : y.head? ≠ some 105) : (t.foldl itmS (true, [])).1 = false := by
  have hlt := (List.getElem?_eq_some_iff.1 hy).1
  have e : t = t.take j ++ y :: t.drop (j + 1) := by
    have h1 := (List.getElem?_eq_some_iff.1 hy).2
    rw [← h1, ← List.drop_eq_getElem_cons hlt, List.take_append_drop]
  rw [e, List.foldl_append, h, List.foldl_cons, (itm_step (true, its) y).2 (fun h9 => hb h9.2), itm_false]
theorem itm_more (ls : List (List UInt8)) (i : Nat) (x : List UInt8) (h : ls[i]? = some x) : ((ls.take (i + 1)).map itm).map strV = ((ls.take i).map itm).map strV ++ [strV (itm x)] := by
  rw [List.take_add_one, h]; simp
theorem itm_len3 (ls : List (List UInt8)) (i : Nat) : (((ls.take i).map itm).map strV).length ≤ i := by
  rw [List.length_map, List.length_map]; exact List.length_take_le ..
theorem rdL_no {r0 : List UInt8} {t : List (List UInt8)} (h : rdH r0 = none) : rdL (r0 :: t) = none := by rw [rdL_cons, h]
theorem rdL_bad {r0 : List UInt8} {t : List (List UInt8)} (h : (t.foldl itmS (true, [])).1 = false) : rdL (r0 :: t) = none := by
  rw [rdL_cons]
  cases rdH r0 with
  | none => rfl
  | some n => simp only; rw [if_neg (by rw [h]; simp)]
theorem rdL_good {r0 : List UInt8} {t its : List (List UInt8)} {n : Int} (hn : rdH r0 = some n) (h : t.foldl itmS (true, []) = (true, its)) : rdL (r0 :: t) = some (n.toNat, its) := by
  rw [rdL_cons, hn]
  simp only
  rw [h, if_pos rfl]

theorem rheader_spec (n : Nat) (hn : n ≤ 1000000001) : DoesR Tryz.prog 73 #[.int .i64 (n : Int)] [] (.string (str (hdr n))) := by
 have hel := encI_len (n : Int) (by omega) (by omega)
 refine spec_enter func73 rfl ntmps73 rfl ?_
 intro u R
 refine Zb [0] ?_
 refine Zq <| Zg <| Za Y <| Z0 <| Zx <| Zq <| Zg <| Zm Y <| Zr [_] Y call125 Y rfl (rputIntZ (n : Int) (by omega) (by omega)) ?_
 rintro _ _ ⟨rfl, rfl⟩
 refine Zm Y <| Zd Y rfl <| Zd Y rfl <| Za Y <| Za Y <| Z0 <| Zx <| Zq <| Zg <| Zm Y ?_
 (refine op_v (p_add_str Y Y ?_) ?_; (focus ((rw [str_size]; show 1 + _ ≤ _; omega))))
 refine Za Y <| Z0 <| Zx <| at_ret ?_
 refine nx_end1 rfl results73 Y (by exact ⟨by rw [str_cons]; rfl, rfl⟩)

theorem rread_nil (p : Option Addr) (c : Nat) : DoesR Tryz.prog 72 #[.slice p 0 c] [] (.tuple #[.int .i64 0, .slice none 0 0, .bool true]) := by
 refine spec_enter func72 rfl ntmps72 rfl ?_
 intro u R
 refine Zb [0] ?_
 refine Zq <| Zg <| Za Y <| Za Y <| Za Y <| Z0 <| Zx <| Zq <| Zq <| Zg <| Zm Y <| Zv (p_len_slice underlying43 Y) ?_
 first | refine op_v (p_eql_nat (n := 0) Y Y) ?_ | refine op_v (p_eql Y Y) ?_
 refine Z0 <| Zx ?_
 first | refine at_if Y (fun hz => ?_) (fun hz => ?_) | refine at_if_bool Y (fun hz => ?_) (fun hz => ?_)
 ·
  refine Zq <| Zg <| Za Y <| Za Y <| Za Y <| Z0 <| Zx <| at_ret <| Zt ?_
  refine nx_end3 rfl results72 Y Y Y (by exact ⟨rfl, rfl⟩)
 ·
  exact absurd rfl hz

theorem rread_bad (v : Value) (sr : List Chunk) (r0 : List UInt8) (t : List (List UInt8)) (hrow : Row 9 v ((r0 :: t).map strV) sr) (hlen : t.length ≤ 4194304) (hh : r0.head? ≠ some 103) : Does Tryz.prog 72 #[v] [sr] (fun r H' => r = .tuple #[.int .i64 0, .slice none 0 0, .bool false] ∧ H' = [sr]) := by
 have hml : maxLen = 9223372036854775807 := rfl
 have hss := str_size r0
 have hl1 : (r0 :: t).length = t.length + 1 := rfl
 obtain ⟨g, cap, cur, z, hv1, hv2, hin⟩ := row_in hrow (by rw [List.length_map]; omega)
 subst hv1 hv2
 rw [List.length_map]
 have hc0 : cur[0]? = some (.string (str r0)) := by have := cellAt hin (i := 0) (x := r0) rfl; rwa [Nat.zero_add] at this
 refine spec_enter func72 rfl ntmps72 rfl ?_
 intro u R
 refine Zb [0] ?_
 refine Zq <| Zg <| Za Y <| Za Y <| Za Y <| Z0 <| Zx <| Zq <| Zq <| Zg <| Zm Y <| Zv (p_len_slice underlying43 Y) ?_
 first | refine op_v (p_eql_nat (n := 0) Y Y) ?_ | refine op_v (p_eql Y Y) ?_
 refine Z0 <| Zx ?_
 first | refine at_if Y (fun hz => ?_) (fun hz => ?_) | refine at_if_bool Y (fun hz => ?_) (fun hz => ?_)
 ·
  exfalso; omega
 ·
  refine at_skip <| Zx <| Zq <| Zq <| Zg <| Zm Y ?_
  first | (refine op_v (p_indexAddr_nat0 (j := 0) underlying43 sizeOf9 Y Y ?_) ?_; (focus (first | exact hq.1.2 | omega))) | (refine op_v (p_indexAddr_nat1 (j := 0) underlying43 sizeOf9 Y Y ?_) ?_; (focus (first | exact hq.1.2 | omega)))
  refine Zl isAgg9 Y (hv := by exact hc0) ?_
  refine Zv (p_eql_str Y Y) <| Zm Y ?_
  first | refine ops_split (t := 17) Y rfl (fun hg1 => ?_) (fun hg1 => ?_) | refine ops_split_bool (t := 17) Y rfl (fun hg1 => ?_) (fun hg1 => ?_)
  ·
   refine op_skip Y rfl <| op_skip Y rfl <| op_skip Y rfl <| op_skip Y rfl <| op_skip Y rfl <| Zv (p_pick_t Y Y) <| Z0 <| Zn [0, 23] ?_
   refine Zx <| at_then Y <| Zq <| Zg <| Za Y <| Za Y <| Za Y <| Z0 <| Zx <| at_ret <| Zt ?_
   refine nx_end3 rfl results72 Y Y Y (by exact ⟨rfl, rfl⟩)
  ·
   have hq := head_at 103 hg1
   refine Zf Y Y ?_
   first | (refine op_wg Y (p_indexAddr_nat0 (j := 0) underlying43 sizeOf9 Y Y ?_) rfl rfl ?_; (focus (first | exact hq.1.2 | omega))) | (refine op_wg Y (p_indexAddr_nat1 (j := 0) underlying43 sizeOf9 Y Y ?_) rfl rfl ?_; (focus (first | exact hq.1.2 | omega)))
   refine op_rg Y (by repeat (first | exact Has.here _ | apply Has.there)) (p_load isAgg9 Y (by exact hc0)) rfl rfl ?_
   (refine op_wg Y (p_index_str (j := 0) underlying9 Y Y (byteAt_get _ _ ?_)) rfl rfl ?_; (focus (first | exact hq.1.2 | omega)))
   first | refine op_wg Y (p_neq_nat (n := 103) Y Y) rfl rfl ?_ | refine op_wg Y (p_neq Y Y) rfl rfl ?_
   refine Zv (p_pick_f Y Y) <| Z0 <| Zn [0, 23] ?_
   refine Zx ?_
   first | refine at_if Y (fun hg2 => ?_) (fun hg2 => ?_) | refine at_if_bool Y (fun hg2 => ?_) (fun hg2 => ?_)
   ·
    refine Zq <| Zg <| Za Y <| Za Y <| Za Y <| Z0 <| Zx <| at_ret <| Zt ?_
    refine nx_end3 rfl results72 Y Y Y (by exact ⟨rfl, rfl⟩)
   ·
    exfalso; exact hh (hq.2.1 (Classical.not_not.1 hg2))

theorem rread_hdr (v : Value) (sr : List Chunk) (r0 : List UInt8) (t : List (List UInt8)) (hrow : Row 9 v ((r0 :: t).map strV) sr) (hlen : t.length ≤ 4194304) (hh : r0.head? = some 103) (hr0 : r0.length ≤ 65536) : Does Tryz.prog 72 #[v] [sr] (fun r H' => (rdL (r0 :: t) = none ∧ r = .tuple #[.int .i64 0, .slice none 0 0, .bool false] ∧ H' = [sr]) ∨ ∃ m l v' s', rdL (r0 :: t) = some (m, l) ∧ l.length ≤ t.length ∧ r = .tuple #[.int .i64 (m : Int), v', .bool true] ∧ Row 9 v' (l.map strV) s' ∧ H' = [sr, s']) := by
 have hml : maxLen = 9223372036854775807 := rfl
 have hss := str_size r0
 have hl1 : (r0 :: t).length = t.length + 1 := rfl
 obtain ⟨g, cap, cur, z, hv1, hv2, hin⟩ := row_in hrow (by rw [List.length_map]; omega)
 subst hv1 hv2
 rw [List.length_map]
 have hc0 : cur[0]? = some (.string (str r0)) := by have := cellAt hin (i := 0) (x := r0) rfl; rwa [Nat.zero_add] at this
 have hp0 : ¬ str r0 = ⟨#[]⟩ := fun h => head_no 103 h hh
 have hq0 := head_at 103 hp0
 have hint := rint_spec r0 1 (by omega) (by omega)
 obtain ⟨n0, e0, k0, hi0, hd0⟩ := int_any (r0 := r0) rfl
 rw [hi0] at hint
 have hk0 : e0 = 0 → k0 ≤ r0.length := by
   intro h
   rcases hd0 with ⟨_, h9⟩ | ⟨h9, _⟩
   · have := decI_at h9; omega
   · omega
 have hval := rdH_val hh hd0
 refine spec_enter func72 rfl ntmps72 rfl ?_
 intro u R
 refine Zb [0] ?_
 refine Zq <| Zg <| Za Y <| Za Y <| Za Y <| Z0 <| Zx <| Zq <| Zq <| Zg <| Zm Y <| Zv (p_len_slice underlying43 Y) ?_
 first | refine op_v (p_eql_nat (n := 0) Y Y) ?_ | refine op_v (p_eql Y Y) ?_
 refine Z0 <| Zx ?_
 first | refine at_if Y (fun hz => ?_) (fun hz => ?_) | refine at_if_bool Y (fun hz => ?_) (fun hz => ?_)
 ·
  exfalso; omega
 ·
  refine at_skip <| Zx <| Zq <| Zq <| Zg <| Zm Y ?_
  first | (refine op_v (p_indexAddr_nat0 (j := 0) underlying43 sizeOf9 Y Y ?_) ?_; (focus (first | exact hq0.1.2 | omega))) | (refine op_v (p_indexAddr_nat1 (j := 0) underlying43 sizeOf9 Y Y ?_) ?_; (focus (first | exact hq0.1.2 | omega)))
  refine Zl isAgg9 Y (hv := by exact hc0) ?_
  refine Zv (p_eql_str Y Y) <| Zm Y ?_
  first | refine ops_split (t := 17) Y rfl (fun hg1 => ?_) (fun hg1 => ?_) | refine ops_split_bool (t := 17) Y rfl (fun hg1 => ?_) (fun hg1 => ?_)
  ·
   exact absurd hg1 hp0
  ·
   refine Zf Y Y ?_
   first | (refine op_wg Y (p_indexAddr_nat0 (j := 0) underlying43 sizeOf9 Y Y ?_) rfl rfl ?_; (focus (first | exact hq0.1.2 | omega))) | (refine op_wg Y (p_indexAddr_nat1 (j := 0) underlying43 sizeOf9 Y Y ?_) rfl rfl ?_; (focus (first | exact hq0.1.2 | omega)))
   refine op_rg Y (by repeat (first | exact Has.here _ | apply Has.there)) (p_load isAgg9 Y (by exact hc0)) rfl rfl ?_
   (refine op_wg Y (p_index_str (j := 0) underlying9 Y Y (byteAt_get _ _ ?_)) rfl rfl ?_; (focus (first | exact hq0.1.2 | omega)))
   first | refine op_wg Y (p_neq_nat (n := 103) Y Y) rfl rfl ?_ | refine op_wg Y (p_neq Y Y) rfl rfl ?_
   refine Zv (p_pick_f Y Y) <| Z0 <| Zn [0, 23] ?_
   refine Zx ?_
   first | refine at_if Y (fun hg2 => ?_) (fun hg2 => ?_) | refine at_if_bool Y (fun hg2 => ?_) (fun hg2 => ?_)
   ·
    exact absurd (hq0.2.2 hh) hg2
   ·
    refine at_skip <| Zx <| Zq <| Zg <| Zm Y ?_
    first | (refine op_v (p_indexAddr_nat0 (j := 0) underlying43 sizeOf9 Y Y ?_) ?_; (focus (omega))) | (refine op_v (p_indexAddr_nat1 (j := 0) underlying43 sizeOf9 Y Y ?_) ?_; (focus (omega)))
    refine Zl isAgg9 Y (hv := by exact hc0) ?_
    refine Zr [_, _] Y call124 Y rfl (hint) ?_
    rintro _ _ ⟨rfl, rfl⟩
    refine Zm Y <| Zd Y rfl <| Zd Y rfl <| Zd Y rfl <| Za Y <| Za Y <| Za Y <| Z0 <| Zx <| Zq <| Zq <| Zg <| Zm Y ?_
    first | refine op_v (p_neq_nat (n := 0) Y Y) ?_ | refine op_v (p_neq Y Y) ?_
    refine Zm Y ?_
    first | refine ops_split (t := 34) Y rfl (fun hk1 => ?_) (fun hk1 => ?_) | refine ops_split_bool (t := 34) Y rfl (fun hk1 => ?_) (fun hk1 => ?_)
    ·
     refine op_skip Y rfl <| op_skip Y rfl <| op_skip Y rfl <| op_skip Y rfl <| op_skip Y rfl <| op_skip Y rfl <| Zv (p_pick_t Y Y) <| Zm Y <| op_skip Y rfl <| op_skip Y rfl <| Zv (p_pick_t Y Y) <| Zm Y <| op_skip Y rfl <| op_skip Y rfl <| Zv (p_pick_t Y Y) <| Z0 <| Zn [0, 5, 49] ?_
     refine Zx <| at_then Y <| Zq <| Zg <| Za Y <| Za Y <| Za Y <| Z0 <| Zx <| at_ret <| Zt ?_
     refine nx_end3 rfl results72 Y Y Y (by exact .inl ⟨(by rw [decide_eq_false (by omega)] at hval; simp only [Bool.false_eq_true, if_false] at hval; exact rdL_no hval), rfl, rfl⟩)
    ·
     refine Zf Y Y <| Zf Y Y ?_
     first | (refine op_wg Y (p_indexAddr_nat0 (j := 0) underlying43 sizeOf9 Y Y ?_) rfl rfl ?_; (focus (omega))) | (refine op_wg Y (p_indexAddr_nat1 (j := 0) underlying43 sizeOf9 Y Y ?_) rfl rfl ?_; (focus (omega)))
     refine op_rg Y (by repeat (first | exact Has.here _ | apply Has.there)) (p_load isAgg9 Y (by exact hc0)) rfl rfl ?_
     refine op_wg Y (p_len_str underlying9 Y) rfl rfl ?_
     first | refine op_wg Y (p_lss_nat Y Y) rfl rfl ?_ | refine op_wg Y (p_lss Y Y) rfl rfl ?_
     refine Zv (p_pick_f Y Y) <| Zm Y ?_
     first | refine ops_split (t := 42) Y rfl (fun hk2 => ?_) (fun hk2 => ?_) | refine ops_split_bool (t := 42) Y rfl (fun hk2 => ?_) (fun hk2 => ?_)
     ·
      refine op_skip Y rfl <| op_skip Y rfl <| Zv (p_pick_t Y Y) <| Zm Y <| op_skip Y rfl <| op_skip Y rfl <| Zv (p_pick_t Y Y) <| Z0 <| Zn [0, 5, 49] ?_
      refine Zx <| at_then Y <| Zq <| Zg <| Za Y <| Za Y <| Za Y <| Z0 <| Zx <| at_ret <| Zt ?_
      refine nx_end3 rfl results72 Y Y Y (by exact .inl ⟨(by rw [decide_eq_false (by omega)] at hval; simp only [Bool.false_eq_true, if_false] at hval; exact rdL_no hval), rfl, rfl⟩)
     ·
      refine Zf Y Y ?_
      first | refine op_wg Y (p_lss_nat (n := 1) Y Y) rfl rfl ?_ | refine op_wg Y (p_lss Y Y) rfl rfl ?_
      refine Zv (p_pick_f Y Y) <| Zm Y ?_
      first | refine ops_split (t := 46) Y rfl (fun hk3 => ?_) (fun hk3 => ?_) | refine ops_split_bool (t := 46) Y rfl (fun hk3 => ?_) (fun hk3 => ?_)
      ·
       refine op_skip Y rfl <| op_skip Y rfl <| Zv (p_pick_t Y Y) <| Z0 <| Zn [0, 5, 49] ?_
       refine Zx <| at_then Y <| Zq <| Zg <| Za Y <| Za Y <| Za Y <| Z0 <| Zx <| at_ret <| Zt ?_
       refine nx_end3 rfl results72 Y Y Y (by exact .inl ⟨(by rw [decide_eq_false (by omega)] at hval; simp only [Bool.false_eq_true, if_false] at hval; exact rdL_no hval), rfl, rfl⟩)
      ·
       refine Zf Y Y ?_
       first | refine op_wg Y (p_gtr_nat (n := 1000000000) Y Y) rfl rfl ?_ | refine op_wg Y (p_gtr Y Y) rfl rfl ?_
       refine Zv (p_pick_f Y Y) <| Z0 <| Zn [0, 5, 49] ?_
       refine Zx ?_
       first | refine at_if Y (fun hk4 => ?_) (fun hk4 => ?_) | refine at_if_bool Y (fun hk4 => ?_) (fun hk4 => ?_)
       ·
        refine Zq <| Zg <| Za Y <| Za Y <| Za Y <| Z0 <| Zx <| at_ret <| Zt ?_
        refine nx_end3 rfl results72 Y Y Y (by exact .inl ⟨(by rw [decide_eq_false (by omega)] at hval; simp only [Bool.false_eq_true, if_false] at hval; exact rdL_no hval), rfl, rfl⟩)
       ·
        refine at_skip <| Zx <| Zq ?_
        rw [decide_eq_true (by omega)] at hval
        simp only [if_true] at hval
        refine Zg <| Za Y <| Z0 <| Zx <| Zq <| Zq <| Zg <| Za Y <| Z0 <| Zx <| at_block <| at_nil ?_
        refine Zb [8, 9, 0, 5] ?_
        refine at_loopB (e0 := [(8, _), (9, _)]) (H0 := _) (n := _) (fun m e H => ∃ (j : Nat) (its : List (List UInt8)) (v : Value) (sv : List Chunk), m = t.length - j ∧ (j ≤ t.length ∧ (t.take j).foldl itmS (true, []) = (true, its) ∧ Row 9 v (its.map strV) sv) ∧ e = [(8, v), (9, .int .i64 ((j + 1 : Nat) : Int))] ∧ H = [sv]) (by exact ⟨0, [], _, [], rfl, ⟨Nat.zero_le _, rfl, row_nil _⟩, rfl, rfl⟩) (by repeat (first | exact Pull.nil _ | (apply Pull.cons; (focus (repeat (first | exact One.here _ _ | apply One.there)))))) ?_
        rintro _ _ _ ⟨j, its, v, sv, rfl, ⟨hj, hfo, hrv⟩, rfl, rfl⟩
        obtain ⟨gv, cv, rfl⟩ := hrv.form
        have htl : its.length ≤ j := by
          have h9 := itm_len (t.take j) (true, [])
          rw [hfo, List.length_take] at h9
          simp only [List.length_nil] at h9
          omega
        refine Zq <| Zq <| Zg <| Zm Y <| Zm Y <| Zv (p_len_slice underlying43 Y) ?_
        first | refine op_v (p_lss_nat Y Y) ?_ | refine op_v (p_lss Y Y) ?_
        refine Z0 <| Zx ?_
        first | refine at_if Y (fun hlt => ?_) (fun hlt => ?_) | refine at_if_bool Y (fun hlt => ?_) (fun hlt => ?_)
        ·
         refine at_skip <| Zx <| Zq <| at_block <| Zq <| Zq ?_
         obtain ⟨y, hy⟩ : ∃ y, t[j]? = some y := ⟨_, List.getElem?_eq_getElem (by omega)⟩
         have hcx : cur[0 + (j + 1)]? = some (.string (str y)) := cellAt hin (i := j + 1) (x := y) (by rw [List.getElem?_cons_succ]; exact hy)
         have hsx := str_size y
         refine Zg <| Zm Y <| Zm Y ?_
         first | (refine op_v (p_indexAddr_nat0 underlying43 sizeOf9 Y Y ?_) ?_; (focus (first | exact hq.1.2 | omega))) | (refine op_v (p_indexAddr_nat1 underlying43 sizeOf9 Y Y ?_) ?_; (focus (first | exact hq.1.2 | omega)))
         refine Zl isAgg9 Y (hv := by first | exact hcx | (rw [Nat.mul_one]; exact hcx) | (rw [Nat.zero_add] at hcx; exact hcx)) ?_
         refine Zv (p_eql_str Y Y) <| Zm Y ?_
         first | refine ops_split (t := 61) Y rfl (fun hm2 => ?_) (fun hm2 => ?_) | refine ops_split_bool (t := 61) Y rfl (fun hm2 => ?_) (fun hm2 => ?_)
         ·
          refine op_skip Y rfl <| op_skip Y rfl <| op_skip Y rfl <| op_skip Y rfl <| op_skip Y rfl <| op_skip Y rfl <| Zv (p_pick_t Y Y) <| Z0 <| Zn [0, 5, 8, 9, 68] ?_
          refine Zx <| at_then Y <| Zq <| Zg <| Za Y <| Za Y <| Za Y <| Z0 <| Zx <| at_ret <| Zt <| nx_block_ret <| Zt <| Zt <| nx_block_ret <| Zt ?_
          refine nx_end3 rfl results72 Y Y Y (by exact .inl ⟨(rdL_bad (itm_bad hy hfo (by first | exact head_no 105 (by assumption) | exact fun h9 => hb9 (hq.2.2 h9)))), rfl, rfl⟩)
         ·
          have hq := head_at 105 hm2
          refine Zf Y Y <| Zf Y Y ?_
          first | (refine op_wg Y (p_indexAddr_nat0 underlying43 sizeOf9 Y Y ?_) rfl rfl ?_; (focus (first | exact hq.1.2 | omega))) | (refine op_wg Y (p_indexAddr_nat1 underlying43 sizeOf9 Y Y ?_) rfl rfl ?_; (focus (first | exact hq.1.2 | omega)))
          refine op_rg Y (by repeat (first | exact Has.here _ | apply Has.there)) (p_load isAgg9 Y (by first | exact hcx | (rw [Nat.mul_one]; exact hcx) | (rw [Nat.zero_add] at hcx; exact hcx))) rfl rfl ?_
          (refine op_wg Y (p_index_str (j := 0) underlying9 Y Y (byteAt_get _ _ ?_)) rfl rfl ?_; (focus (first | exact hq.1.2 | omega)))
          first | refine op_wg Y (p_neq_nat (n := 105) Y Y) rfl rfl ?_ | refine op_wg Y (p_neq Y Y) rfl rfl ?_
          refine Zv (p_pick_f Y Y) <| Z0 <| Zn [0, 5, 8, 9, 68] ?_
          refine Zx ?_
          first | refine at_if Y (fun hb9 => ?_) (fun hb9 => ?_) | refine at_if_bool Y (fun hb9 => ?_) (fun hb9 => ?_)
          ·
           refine Zq <| Zg <| Za Y <| Za Y <| Za Y <| Z0 <| Zx <| at_ret <| Zt <| nx_block_ret <| Zt <| Zt <| nx_block_ret <| Zt ?_
           refine nx_end3 rfl results72 Y Y Y (by exact .inl ⟨(rdL_bad (itm_bad hy hfo (by first | exact head_no 105 (by assumption) | exact fun h9 => hb9 (hq.2.2 h9)))), rfl, rfl⟩)
          ·
           refine at_skip <| Zx <| Zg <| Zm Y <| Zm Y <| Zm Y ?_
           first | (refine op_v (p_indexAddr_nat0 underlying43 sizeOf9 Y Y ?_) ?_; (focus (omega))) | (refine op_v (p_indexAddr_nat1 underlying43 sizeOf9 Y Y ?_) ?_; (focus (omega)))
           refine Zl isAgg9 Y (hv := by first | exact hcx | (rw [Nat.mul_one]; exact hcx) | (rw [Nat.zero_add] at hcx; exact hcx)) ?_
           refine op_w (p_slice_drop underlying9 (k := 1) Y Y (by have := hq.1.1; omega)) rfl rfl ?_
           rw [tail_drop]
           refine Ze (w_buildSlice (vs := [_]) (cs := [_]) underlying43 sizeOf9 zeroValue9 Y rfl rfl rfl rfl rfl) ?_
           rintro _ _ ⟨b1, rfl, rfl⟩
           refine Ze (w_append (by_ := 16) (news := [_]) underlying43 (rfl : Tryz.prog.info? 9 = some Tryz.t9) rfl rfl rfl rfl Y hrv Y (by repeat (first | exact One.here _ _ | apply One.there)) (by repeat (first | exact Has.here _ | apply Has.there)) (by rfl) rfl (by simp [Value.oneCell']) (by decide) (by (simp only [List.length_map]; omega)) (by (simp only [List.length_map]; omega))) ?_
           rintro _ _ ⟨sq, hrq, rfl⟩
           obtain ⟨gq, cq, rfl⟩ := hrq.form
           refine Za Y <| Z0 <| nx_block_normal <| Zx <| Zg <| Zm Y ?_
           first | (refine op_v (p_add_nat (n := 1) Y Y ?_) ?_; (focus (omega))) | (refine op_v (p_add Y Y (IntWalk.i64_in _ ?_)) ?_; (focus (omega)))
           refine Za Y <| Z0 <| Zn [8, 9, 0, 5] ?_
           refine nx_againB (e' := [(8, _), (9, _)]) (m := _) (H' := _) (by exact ⟨j + 1, its ++ [y.tail], _, _, rfl, ⟨by omega, by rw [itm_next t j y hy, hfo, (itm_step (true, its) y).1 rfl (hq.2.1 (Classical.not_not.1 hb9))], by rw [List.map_append]; exact hrq⟩, rfl, rfl⟩)
        ·
         have ei : j = t.length := by omega
         subst ei
         rw [List.take_length] at hfo
         refine at_exit <| Zt <| Zt <| nx_block_exit <| Zx <| Zq <| Zg <| Zm Y <| Zm Y <| Za Y <| Za Y <| Za Y <| Z0 <| Zx <| at_ret ?_
         refine nx_end3 rfl results72 Y Y Y (by exact .inr ⟨n0.toNat, its, _, _, rdL_good hval hfo, by omega, by rw [show ((n0.toNat : Nat) : Int) = n0 by omega], hrv, rfl⟩)

theorem rread_any {v : Value} {rs : List (List UInt8)} {sr : List Chunk} (hrow : Row 9 v (rs.map strV) sr) (hlen : rs.length ≤ 4194304) (hs : ∀ r ∈ rs, r.length ≤ 65536) :
    Does Tryz.prog 72 #[v] [sr] (fun r H' => ∃ n v' sv its ok, r = .tuple #[.int .i64 n, v', .bool ok] ∧ LstR rs n its ok ∧ its.length ≤ rs.length ∧ Row 9 v' (its.map strV) sv ∧ H' = [sr, sv]) := by
  cases rs with
  | nil =>
    obtain ⟨b, c, rfl⟩ := hrow.form
    refine does_mono (does_frame (rread_nil b c) [sr] (by simp)) ?_
    rintro r _ ⟨H2, ⟨rfl, rfl⟩, rfl⟩
    exact ⟨_, ⟨0, _, [], [], true, rfl, ⟨rfl, rfl, rfl⟩, Nat.le_refl _, row_nil _, rfl⟩, by simp⟩
  | cons r0 t =>
    have hlt : t.length ≤ 4194304 := by simp only [List.length_cons] at hlen; omega
    by_cases hh : r0.head? = some 103
    · refine does_mono (rread_hdr v sr r0 t hrow hlt hh (hs r0 (by simp))) ?_
      rintro r _ (⟨h1, rfl, rfl⟩ | ⟨m, l, v', s', h1, h2, rfl, h3, rfl⟩)
      · exact ⟨_, ⟨0, _, [], [], false, rfl, by unfold LstR; rw [h1], Nat.zero_le _, row_nil _, rfl⟩, by simp⟩
      · exact ⟨_, ⟨m, v', s', l, true, rfl, by unfold LstR; rw [h1]; exact ⟨rfl, rfl, rfl⟩, by simp only [List.length_cons]; omega, h3, rfl⟩, rfl⟩
    · refine does_mono (rread_bad v sr r0 t hrow hlt hh) ?_
      rintro r _ ⟨rfl, rfl⟩
      refine ⟨_, ⟨0, _, [], [], false, rfl, ?_, Nat.zero_le _, row_nil _, rfl⟩, by simp⟩
      unfold LstR
      rw [rdL_no (by unfold rdH; rw [if_neg hh])]

theorem ritems_spec {v : Value} {ls : List (List UInt8)} {sl : List Chunk} (hl : Row 9 v (ls.map strV) sl) (hn : ls.length ≤ 1000000) (hb : ls.any isBig = false) : Does Tryz.prog 118 #[v] [sl] (fun r H' => ∃ v' s', r = .tuple #[v', .bool true] ∧ Row 9 v' ((ls.map itm).map strV) s' ∧ H' = [sl, s']) := by
 have hml : maxLen = 9223372036854775807 := rfl
 obtain ⟨gl, cl, rfl⟩ := hl.form
 refine spec_enter func118 rfl ntmps118 rfl ?_
 intro u R
 refine Zb [0] ?_
 refine Zq <| Zg <| Za Y <| Za Y <| Z0 <| Zx <| Zq <| Zg <| Za Y <| Z0 <| Zx <| Zq <| Zq <| Zg <| Za Y <| Z0 <| Zx <| at_block <| at_nil ?_
 refine Zb [4, 5, 0] ?_
 refine at_loopB (e0 := [(4, _), (5, _)]) (H0 := _) (n := _) (fun m e H => ∃ (i : Nat) (w : Value) (s : List Chunk), m = ls.length - i ∧ (i ≤ ls.length ∧ Row 9 w (((ls.take i).map itm).map strV) s) ∧ e = [(4, w), (5, .int .i64 (i : Int))] ∧ H = [s]) (by exact ⟨0, _, [], rfl, ⟨Nat.zero_le _, row_nil _⟩, rfl, rfl⟩) (by repeat (first | exact Pull.nil _ | (apply Pull.cons; (focus (repeat (first | exact One.here _ _ | apply One.there)))))) ?_
 rintro _ _ _ ⟨i, w, s, rfl, ⟨hi, hr⟩, rfl, rfl⟩
 obtain ⟨gv, cv, rfl⟩ := hr.form
 refine Zq <| Zq <| Zg <| Zm Y <| Zm Y <| Zv (p_len_slice underlying43 Y) ?_
 first | refine op_v (p_lss_nat Y Y) ?_ | refine op_v (p_lss Y Y) ?_
 refine Z0 <| Zx ?_
 first | refine at_if Y (fun hlt => ?_) (fun hlt => ?_) | refine at_if_bool Y (fun hlt => ?_) (fun hlt => ?_)
 ·
  rw [List.length_map] at hlt
  refine at_skip <| Zx <| Zq <| at_block <| Zq <| Zq ?_
  obtain ⟨x, hx⟩ : ∃ x, ls[i]? = some x := ⟨_, List.getElem?_eq_getElem hlt⟩
  have hxl := big_none hb x (List.mem_of_getElem? hx)
  obtain ⟨gk, ck, curk, zk, hvk, rfl, hink⟩ := row_in hl (by rw [List.length_map]; omega)
  injection hvk with e1 e2 e3
  subst e1 e3
  have hcell := cellAt hink hx
  have hil := itm_len3 ls i
  have hsx := str_size x
  refine Zg <| Zm Y <| Zm Y ?_
  first | (refine op_v (p_indexAddr_nat0 underlying43 sizeOf9 Y Y ?_) ?_; (focus (first | omega | (rw [List.length_map]; omega)))) | (refine op_v (p_indexAddr_nat1 underlying43 sizeOf9 Y Y ?_) ?_; (focus (first | omega | (rw [List.length_map]; omega))))
  refine Zl isAgg9 Y (hv := by first | exact hcell | (rw [Nat.mul_one]; exact hcell) | simpa using hcell) ?_
  refine Zv (p_len_str underlying9 Y) ?_
  first | refine op_v (p_geq_nat (n := 65536) Y Y) ?_ | refine op_v (p_geq Y Y) ?_
  refine Z0 <| Zx ?_
  first | refine at_if Y (fun hc1 => ?_) (fun hc1 => ?_) | refine at_if_bool Y (fun hc1 => ?_) (fun hc1 => ?_)
  ·
   exfalso; omega
  ·
   refine at_skip <| Zx <| Zg <| Zm Y <| Zm Y <| Zm Y ?_
   first | (refine op_v (p_indexAddr_nat0 underlying43 sizeOf9 Y Y ?_) ?_; (focus (first | omega | (rw [List.length_map]; omega)))) | (refine op_v (p_indexAddr_nat1 underlying43 sizeOf9 Y Y ?_) ?_; (focus (first | omega | (rw [List.length_map]; omega))))
   refine Zl isAgg9 Y (hv := by first | exact hcell | (rw [Nat.mul_one]; exact hcell) | simpa using hcell) ?_
   refine op_w (p_add_str Y Y (by rw [str_size]; show 1 + _ ≤ _; omega)) rfl rfl ?_
   rw [str_cons]
   refine Ze (w_buildSlice (vs := [_]) (cs := [_]) underlying43 sizeOf9 zeroValue9 Y rfl rfl rfl rfl rfl) ?_
   rintro _ _ ⟨gb, rfl, rfl⟩
   refine Ze (w_append (by_ := 16) (news := [_]) underlying43 (rfl : Tryz.prog.info? 9 = some Tryz.t9) rfl rfl rfl rfl Y hr Y (by repeat (first | exact One.here _ _ | apply One.there)) (by repeat (first | exact Has.here _ | apply Has.there)) (by rfl) rfl (by simp [Value.oneCell']) (by decide) (by omega) (by omega)) ?_
   rintro _ _ ⟨sq, hrq, rfl⟩
   obtain ⟨gq, cq, rfl⟩ := hrq.form
   refine Za Y <| Z0 <| Zn [0, 4, 5] ?_
   refine nx_block_normal <| Zx <| Zg <| Zm Y ?_
   first | (refine op_v (p_add_nat (n := 1) Y Y ?_) ?_; (focus (omega))) | (refine op_v (p_add Y Y (IntWalk.i64_in _ ?_)) ?_; (focus (omega)))
   refine Za Y <| Z0 <| Zn [4, 5, 0] ?_
   refine nx_againB (e' := [(4, _), (5, _)]) (m := _) (H' := _) (by exact ⟨i + 1, _, _, rfl, ⟨by omega, by rw [itm_more ls i x hx]; exact hrq⟩, rfl, rfl⟩)
 ·
  rw [List.length_map] at hlt
  rw [List.take_of_length_le (show ls.length ≤ i by omega)] at hr ⊢
  refine at_exit <| Zt <| Zt <| nx_block_exit <| Zx <| Zq <| Zg <| Zm Y <| Za Y <| Za Y <| Z0 <| Zx <| at_ret ?_
  refine nx_end2 rfl results118 Y Y (by exact ⟨_, _, rfl, hr, rfl⟩)

theorem kr_room {j : JrS} {d : DiskS} {kp rp : Nat} {sk sd : List Chunk} (hK : KrR j kp rp sk) (hR : RdR d rp sd) (hz : j.sz ≤ 4194304) : DoesR Tryz.prog 74 #[.pointer (some ⟨kp, 0, none⟩)] [sk, sd] (.int .i64 ((d.vi.length : Int) - (j.sz : Int))) := by
  obtain ⟨_, _, _, v0, sr0, _, rfl⟩ := hK
  refine does_perm (does_frame (rroom_st hR kp j.sz v0 (.bool j.br) hz) [sr0] rfl) ?_ ?_
  · refine perm_cnt fun p => ?_
    simp only [List.flatten_cons, List.flatten_nil, List.flatten_append, List.countP_append, List.countP_cons, List.countP_nil, List.append_nil]
    omega
  · rintro r _ ⟨H2, ⟨rfl, rfl⟩, rfl⟩
    refine ⟨_, ⟨rfl, rfl⟩, ?_⟩
    refine perm_cnt fun p => ?_
    simp only [List.flatten_cons, List.flatten_nil, List.flatten_append, List.countP_append, List.countP_cons, List.countP_nil, List.append_nil]
    omega
theorem koC_load (sw : Bool) (p q : Value) (gen : Nat) (v : Value) (err : Int) : (koC sw p q gen v err)[swI sw]? = some p ∧ (koC sw p q gen v err)[1 - swI sw]? = some q ∧ (koC sw p q gen v err)[2]? = some (.int .i64 ((swI sw : Nat) : Int)) ∧ (koC sw p q gen v err)[3]? = some (.int .i64 (gen : Int)) ∧ (koC sw p q gen v err)[4]? = some v ∧ (koC sw p q gen v err)[5]? = some (.int .i64 err) := by
  cases sw <;> exact ⟨rfl, rfl, rfl, rfl, rfl, rfl⟩
theorem koC_size (sw : Bool) (p q : Value) (gen : Nat) (v : Value) (err : Int) : (koC sw p q gen v err).size = 6 := by cases sw <;> rfl
theorem koC_v (sw : Bool) (p q : Value) (gen : Nat) (v w : Value) (err : Int) : (koC sw p q gen v err).setIfInBounds 4 w = koC sw p q gen w err := by cases sw <;> rfl
theorem koC_e (sw : Bool) (p q : Value) (gen : Nat) (v : Value) (err e : Int) : (koC sw p q gen v err).setIfInBounds 5 (.int .i64 e) = koC sw p q gen v e := by cases sw <;> rfl
theorem koC_g (sw : Bool) (p q : Value) (gen g : Nat) (v : Value) (err : Int) : (koC sw p q gen v err).setIfInBounds 3 (.int .i64 (g : Int)) = koC sw p q g v err := by cases sw <;> rfl
theorem koC_o (sw : Bool) (p q w : Value) (gen : Nat) (v : Value) (err : Int) : (koC sw p q gen v err).setIfInBounds (1 - swI sw) w = koC sw p w gen v err := by cases sw <;> rfl
theorem koC_s (sw : Bool) (p q : Value) (gen : Nat) (v : Value) (err : Int) : (koC sw p q gen v err).setIfInBounds 2 (.int .i64 ((1 - swI sw : Nat) : Int)) = koC (!sw) q p gen v err := by cases sw <;> rfl

theorem rsroom_spec (sp kp rp gen : Nat) (sw : Bool) (q v : Value) (err : Int) (j : JrS) (d : DiskS) (skc sdc : List Chunk) (hK : KrR j kp rp skc) (hR : RdR d rp sdc) (hz : j.sz ≤ 4194304) : DoesR Tryz.prog 29 #[.pointer (some ⟨sp, 0, none⟩)] [[(sp, .cells (koC sw (.pointer (some ⟨kp, 0, none⟩)) (q) gen v err) 68 (0, 0))], skc, sdc] (.int .i64 ((d.vi.length : Int) - (j.sz : Int))) := by
 have hsw := swI_le sw
 obtain ⟨lp, lq, lk, lg, lv, le⟩ := koC_load sw (.pointer (some ⟨kp, 0, none⟩)) (q) (gen) (v) (err)
 have hroom := kr_room hK hR hz
 refine spec_enter func29 rfl ntmps29 rfl ?_
 intro u R
 refine Zb [0] ?_
 refine Zq <| Zg <| Za Y <| Z0 <| Zx <| Zq <| at_draw (n := 11) (0 :: 0 :: 2 :: 6 :: 14 :: 1 :: 33 :: 127 :: 255 :: 511 :: 1023 :: []) 512 (by kernel_rfl) (by kernel_rfl) rfl ?_
 refine Zi 1 0 rfl (p_move Y) <| Zi 3 1 rfl (p_move Y) <| Zi 7 2 rfl (p_nilChk Y rfl) <| Zi 15 3 rfl (p_fieldAddr0 (off := 2) underlying68 rfl rfl sizeOf3 Y) <| Zj 31 4 rfl isAgg3 Y (hv := by first | exact lk | exact lg | exact lv | exact le | exact lp | exact lq | (rw [Nat.zero_add]; exact lp) | (rw [Nat.zero_add]; exact lq) | (rw [Nat.zero_add, Nat.mul_one]; first | exact lp | exact lq) | simpa using lp | simpa using lq) ?_
 refine Zi 63 5 rfl (p_nilChk Y rfl) <| Zi 127 6 rfl (p_fieldAddr0 (off := 0) underlying68 rfl rfl sizeOf66 Y) ?_
 first | (refine lin_v (D' := 255) 7 (p_indexAddr_arr0 underlying66 sizeOf65 Y Y ?_) ?_; (focus (first | omega | (rw [koC_size]; omega)))) | (refine lin_v (D' := 255) 7 (p_indexAddr_arr underlying66 sizeOf65 Y Y ?_) ?_; (focus (first | omega | (rw [koC_size]; omega))))
 refine Zj 511 8 rfl isAgg65 Y (hv := by first | exact lk | exact lg | exact lv | exact le | exact lp | exact lq | (rw [Nat.zero_add]; exact lp) | (rw [Nat.zero_add]; exact lq) | (rw [Nat.zero_add, Nat.mul_one]; first | exact lp | exact lq) | simpa using lp | simpa using lq) ?_
 refine Zz (l := [9]) ?_
 refine Zy 511 1023 [8, 4] [false, false] [] rfl Y rfl rfl rfl rfl (Zu [_] Y call74 Y rfl (hroom)) ?hk_1 (fun _ _ h => h.elim) ?hl_1
 case hk_1 =>
  rintro _ _ ⟨rfl, rfl⟩
  refine ⟨keep_nil, ?_⟩
  refine Zi 2047 10 rfl (p_assign Y) <| lin_nil ?_
  refine Zx <| at_ret ?_
  refine nx_end1 rfl results29 Y (by exact ⟨rfl, rfl⟩)
 case hl_1 =>
  exact each_nil

theorem rsrep_spec (sp kq rq gen n k : Nat) (sw : Bool) (p v : Value) (err : Int) (ls : List (List UInt8)) (skq sdq : List Chunk) (j : JrS) (d : DiskS) (hb : ls.any isBig = false) (hg : gen < 1000000000) (hW : Wok n k d (some j)) (h1 : 1 ≤ n) (h3 : n ≤ 4194304) (hk : k ≤ 900000) (hK : KrR j kq rq skq) (hR : RdR d rq sdq) (w : Value) (si : List Chunk) (hn : ls.length ≤ 900000) (hi : Row 9 w ((ls.map itm).map strV) si) : Does Tryz.prog 119 #[.pointer (some ⟨sp, 0, none⟩), .int .i64 ((1 - swI sw : Nat) : Int), w] [[(sp, .cells (koC sw (p) (.pointer (some ⟨kq, 0, none⟩)) gen v err) 68 (0, 0))], skq, sdq, si] (fun r H' => ∃ nq skq' sdq', r = .int .i64 (cptS j d gen ls).1 ∧ KrR (cptS j d gen ls).2.1 nq rq skq' ∧ RdR (cptS j d gen ls).2.2 rq sdq' ∧ H' = [[(sp, .cells (koC sw (p) (.pointer (some ⟨nq, 0, none⟩)) gen v err) 68 (0, 0))], skq', sdq', si]) := by
 have hsw := swI_le sw
 obtain ⟨lp, lq, lk, lg, lv, le⟩ := koC_load sw (p) (.pointer (some ⟨kq, 0, none⟩)) (gen) (v) (err)
 have hml : maxLen = 9223372036854775807 := rfl
 obtain ⟨hh0, hn0, hsh0, v0, sr0, hrow0, hs0⟩ := id hK
 obtain ⟨b0, c0, hv0⟩ := hrow0.form
 rw [List.length_map] at hv0
 subst hv0
 obtain ⟨gi, ci, rfl⟩ := hi.form
 have hpd := hW.pend
 have hwe := ers_ok (j := j) hW h1
 have hrl := recs_long (n := gen + 1) (by omega) hb
 have hvn := hW.len
 refine spec_enter func119 rfl ntmps119 rfl ?_
 intro u R
 refine Zb [0, 1, 2] ?_
 refine Zq <| Zg <| Za Y <| Z0 <| Zx <| Zq <| Zg <| Zm Y <| Zm Y <| Zp Y rfl <| Zh 0 underlying68 rfl rfl sizeOf66 Y ?_
 first | (refine op_v (p_indexAddr_arr0 underlying66 sizeOf65 Y Y ?_) ?_; (focus (first | omega | (rw [koC_size]; omega)))) | (refine op_v (p_indexAddr_arr underlying66 sizeOf65 Y Y ?_) ?_; (focus (first | omega | (rw [koC_size]; omega))))
 refine Zl isAgg65 Y (hv := by first | exact lk | exact lg | exact lv | exact le | exact lp | exact lq | (rw [Nat.zero_add]; exact lp) | (rw [Nat.zero_add]; exact lq) | (rw [Nat.zero_add, Nat.mul_one]; first | exact lp | exact lq) | simpa using lp | simpa using lq) ?_
 refine Zp Y rfl <| Zh 0 underlying156 rfl rfl sizeOf52 Y <| op_rm (cs := [(kq, .cells #[.pointer (some ⟨rq, 0, none⟩), .slice b0 j.rs.length c0, .int .i64 (j.sz : Int), .bool j.br] 156 (0, 0))]) (by simp [hs0]) (p_load isAgg52 Y rfl) rfl rfl ?_
 refine Za Y <| Z0 <| Zx <| Zq <| Zq <| Zg <| Zm Y <| Zm Y <| Zp Y rfl <| Zh 0 underlying68 rfl rfl sizeOf66 Y ?_
 first | (refine op_v (p_indexAddr_arr0 underlying66 sizeOf65 Y Y ?_) ?_; (focus (first | omega | (rw [koC_size]; omega)))) | (refine op_v (p_indexAddr_arr underlying66 sizeOf65 Y Y ?_) ?_; (focus (first | omega | (rw [koC_size]; omega))))
 refine Zl isAgg65 Y (hv := by first | exact lk | exact lg | exact lv | exact le | exact lp | exact lq | (rw [Nat.zero_add]; exact lp) | (rw [Nat.zero_add]; exact lq) | (rw [Nat.zero_add, Nat.mul_one]; first | exact lp | exact lq) | simpa using lp | simpa using lq) ?_
 refine Zp Y rfl <| Zh 1 underlying156 rfl rfl sizeOf43 Y <| op_rm (cs := [(kq, .cells #[.pointer (some ⟨rq, 0, none⟩), .slice b0 j.rs.length c0, .int .i64 (j.sz : Int), .bool j.br] 156 (0, 0))]) (by simp [hs0]) (p_load isAgg43 Y rfl) rfl rfl ?_
 refine Zv (p_len_slice underlying43 Y) ?_
 first | refine op_v (p_gtr_nat (n := 0) Y Y) ?_ | refine op_v (p_gtr Y Y) ?_
 refine Z0 <| Zn [0, 1, 2, 7, 30] ?_
 refine Zx ?_
 first | refine at_if Y (fun hlen => ?_) (fun hlen => ?_) | refine at_if_bool Y (fun hlen => ?_) (fun hlen => ?_)
 ·
  have hnil : j.rs ≠ [] := by
    intro h
    rw [h] at hlen
    simp at hlen
  refine Zq <| Zg <| Zm Y <| Zc [_, _, _] Y call22 Y rfl (rd_write d rq sdq hR 0 [0] (by simp; omega) (by omega)) ?_
  rintro _ _ ⟨_, ⟨sd1, rfl, rfl, hR1⟩, rfl⟩
  have hpw := write_pend d 0 [0]
  refine Za Y <| Z0 <| Zx <| Zq <| Zq <| Zg <| Zm Y ?_
  first | refine op_v (p_eql_nat (n := 0) Y Y) ?_ | refine op_v (p_eql Y Y) ?_
  refine Z0 <| Zx ?_
  first | refine at_if Y (fun hw1 => ?_) (fun hw1 => ?_) | refine at_if_bool Y (fun hw1 => ?_) (fun hw1 => ?_)
  ·
   refine Zg <| Zm Y <| Zc [_] Y call116 Y rfl (rd_sync _ rq sd1 hR1 (by omega)) ?_
   rintro _ _ ⟨_, ⟨sd2, rfl, rfl, hR2⟩, rfl⟩
   have hps := sync_pend (d.write 0 [0]).2
   refine Za Y <| Z0 <| Zx <| Zq <| Zg <| Zm Y ?_
   first | refine op_v (p_neq_nat (n := 0) Y Y) ?_ | refine op_v (p_neq Y Y) ?_
   refine Z0 <| Zx ?_
   first | refine at_if Y (fun hw2 => ?_) (fun hw2 => ?_) | refine at_if_bool Y (fun hw2 => ?_) (fun hw2 => ?_)
   ·
    refine Zq <| Zg <| Zm Y <| Za Y <| Z0 <| Zx <| at_ret <| Zt ?_
    refine nx_end1 rfl results119 Y (by first | exact ⟨kq, _, _, by rw [cptS_none (by rw [ers_s hnil (fun h => h hw1) hw2]), ers_s hnil (fun h => h hw1) hw2], by rw [cptS_none (by rw [ers_s hnil (fun h => h hw1) hw2])]; exact hK, by rw [cptS_none (by rw [ers_s hnil (fun h => h hw1) hw2]), ers_s hnil (fun h => h hw1) hw2]; exact hR2, rfl⟩ | exact ⟨kq, _, _, by rw [cptS_none (by rw [ers_w hnil hw2]), ers_w hnil hw2], by rw [cptS_none (by rw [ers_w hnil hw2])]; exact hK, by rw [cptS_none (by rw [ers_w hnil hw2]), ers_w hnil hw2]; exact hR1, rfl⟩)
   ·
    obtain ⟨dz, hdz⟩ : ∃ dz, dz = (d.write 0 [0]).2.sync.2 := ⟨_, rfl⟩
    have hez : ersS j d = dz.openJ := by rw [hdz]; exact ers_o hnil (fun h => h hw1) hw2
    have hRz : RdR dz rq sd2 := by rw [hdz]; exact hR2
    have hpz : dz.pend.length ≤ 999990 := by rw [hdz]; omega
    refine at_skip <| Zx <| Zq <| Zg <| Zm Y <| Zc [_] Y call71 Y rfl (kopen_any dz rq _ hRz hpz) ?_
    rintro _ _ ⟨_, ⟨v1, sk1, sd3, hK3, hR3, rfl, rfl⟩, rfl⟩
    rw [← hez] at hK3 hR3 ⊢
    refine Zm Y <| Zd Y rfl <| Zd Y rfl <| Za Y <| Za Y <| Z0 <| Zn [0, 1, 2, 9, 10] ?_
    refine Zx <| Zq <| Zq <| Zg <| Zm Y ?_
    first | refine op_v (p_neq_nat (n := 0) Y Y) ?_ | refine op_v (p_neq Y Y) ?_
    refine Z0 <| Zx ?_
    first | refine at_if Y (fun hq3 => ?_) (fun hq3 => ?_) | refine at_if_bool Y (fun hq3 => ?_) (fun hq3 => ?_)
    ·
     have hx : (ersS j d).2.1 = none := by
       rcases ers_code j d with ⟨j1, _, h9⟩ | ⟨h9, _⟩
       · exact absurd h9 hq3
       · exact h9
     rw [cptS_none hx]
     refine Zq <| Zg <| Zm Y <| Za Y <| Z0 <| Zx <| at_ret <| Zt ?_
     refine nx_end1 rfl results119 Y (by exact ⟨kq, _, _, rfl, hK, hR3, rfl⟩)
    ·
     obtain ⟨j1, hx⟩ : ∃ j1, (ersS j d).2.1 = some j1 := by
       rcases ers_code j d with ⟨j1, h9, _⟩ | ⟨_, h9⟩
       · exact ⟨j1, h9⟩
       · exact absurd h9 hq3
     rw [hx] at hK3 hwe
     obtain ⟨nq, rfl, hKn⟩ := hK3
     rw [cptS_some hx]
     refine at_skip <| Zx <| Zq <| Zg <| Zm Y <| Zm Y <| Zm Y <| Zp Y rfl <| Zh 0 underlying68 rfl rfl sizeOf66 Y ?_
     first | (refine op_v (p_indexAddr_arr0 underlying66 sizeOf65 Y Y ?_) ?_; (focus (first | omega | (rw [koC_size]; omega)))) | (refine op_v (p_indexAddr_arr underlying66 sizeOf65 Y Y ?_) ?_; (focus (first | omega | (rw [koC_size]; omega))))
     refine Ze (Zs sizeOf65 Y Y rfl (hc := by first | exact koC_o _ _ _ _ _ _ _ | (rw [Nat.zero_add]; exact koC_o _ _ _ _ _ _ _)) (hi := by first | omega | (rw [koC_size]; omega))) ?_
     rintro _ _ ⟨rfl, rfl⟩
     refine Z0 <| Zx <| Zq <| Zg <| Zm Y <| Zm Y <| Zp Y rfl <| Zh 3 underlying68 rfl rfl sizeOf3 Y <| Zl isAgg3 Y (hv := by exact (koC_load _ _ _ _ _ _).2.2.2.1) ?_
     first | (refine op_v (p_add_nat (n := 1) Y Y ?_) ?_; (focus (omega))) | (refine op_v (p_add Y Y (IntWalk.i64_in _ ?_)) ?_; (focus (omega)))
     refine Zr [_] Y call73 Y rfl (rheader_spec (gen + 1) (by omega)) ?_
     rintro _ _ ⟨rfl, rfl⟩
     refine Ze (w_buildSlice (vs := [_]) (cs := [_]) underlying43 sizeOf9 zeroValue9 Y rfl rfl rfl rfl rfl) ?_
     rintro _ _ ⟨gq, rfl, rfl⟩
     refine Zm Y ?_
     refine Ze (w_append_row (by_ := 16) underlying43 (rfl : Tryz.prog.info? 9 = some Tryz.t9) rfl rfl rfl rfl Y (row_new _ gq [strV (hdr (gen + 1))] 1 rfl (by decide)) Y (hi) (by repeat (first | exact One.here _ _ | apply One.there)) (by repeat (first | exact One.here _ _ | apply One.there)) (by simp [Value.oneCell', strV]) (by (simp only [List.length_map, List.length_singleton]; omega)) (by (simp only [List.length_map, List.length_singleton]; omega))) ?_
     rintro _ _ ⟨sa, hra, rfl⟩
     obtain ⟨ga, ca, rfl⟩ := hra.form
     refine Zc [_, _] Y call63 Y rfl (kr_app_any j1 _ nq rq sk1 sa sd3 _ (recsOf (gen + 1) ls) hwe h3 hKn hR3 hra (by omega) (by unfold recsOf; simp; omega) hrl) ?_
     rintro _ _ ⟨_, ⟨sk2, sd4, rfl, hK4, hR4, rfl⟩, rfl⟩
     refine Za Y <| Z0 <| Zn [6] ?_
     refine Zx <| at_ret ?_
     refine nx_end1 rfl results119 Y (by exact ⟨nq, _, _, rfl, hK4, hR4, rfl⟩)
  ·
   refine at_skip <| Zx <| Zq <| Zg <| Zm Y ?_
   first | refine op_v (p_neq_nat (n := 0) Y Y) ?_ | refine op_v (p_neq Y Y) ?_
   refine Z0 <| Zx ?_
   first | refine at_if Y (fun hw2 => ?_) (fun hw2 => ?_) | refine at_if_bool Y (fun hw2 => ?_) (fun hw2 => ?_)
   ·
    refine Zq <| Zg <| Zm Y <| Za Y <| Z0 <| Zx <| at_ret <| Zt ?_
    refine nx_end1 rfl results119 Y (by first | exact ⟨kq, _, _, by rw [cptS_none (by rw [ers_s hnil (fun h => h hw1) hw2]), ers_s hnil (fun h => h hw1) hw2], by rw [cptS_none (by rw [ers_s hnil (fun h => h hw1) hw2])]; exact hK, by rw [cptS_none (by rw [ers_s hnil (fun h => h hw1) hw2]), ers_s hnil (fun h => h hw1) hw2]; exact hR2, rfl⟩ | exact ⟨kq, _, _, by rw [cptS_none (by rw [ers_w hnil hw2]), ers_w hnil hw2], by rw [cptS_none (by rw [ers_w hnil hw2])]; exact hK, by rw [cptS_none (by rw [ers_w hnil hw2]), ers_w hnil hw2]; exact hR1, rfl⟩)
   ·
    exact absurd (Classical.not_not.1 hw2) hw1
 ·
  have hnil : j.rs = [] := List.eq_nil_of_length_eq_zero (by omega)
  obtain ⟨dz, hdz⟩ : ∃ dz, dz = d := ⟨d, rfl⟩
  have hez : ersS j d = dz.openJ := by rw [hdz]; exact ers_nil hnil
  have hRz : RdR dz rq sdq := by rw [hdz]; exact hR
  have hpz : dz.pend.length ≤ 999990 := by rw [hdz]; omega
  refine at_skip <| Zx <| Zq <| Zg <| Zm Y <| Zc [_] Y call71 Y rfl (kopen_any dz rq _ hRz hpz) ?_
  rintro _ _ ⟨_, ⟨v1, sk1, sd3, hK3, hR3, rfl, rfl⟩, rfl⟩
  rw [← hez] at hK3 hR3 ⊢
  refine Zm Y <| Zd Y rfl <| Zd Y rfl <| Za Y <| Za Y <| Z0 <| Zx <| Zq <| Zq <| Zg <| Zm Y ?_
  first | refine op_v (p_neq_nat (n := 0) Y Y) ?_ | refine op_v (p_neq Y Y) ?_
  refine Z0 <| Zx ?_
  first | refine at_if Y (fun hq3 => ?_) (fun hq3 => ?_) | refine at_if_bool Y (fun hq3 => ?_) (fun hq3 => ?_)
  ·
   have hx : (ersS j d).2.1 = none := by
     rcases ers_code j d with ⟨j1, _, h9⟩ | ⟨h9, _⟩
     · exact absurd h9 hq3
     · exact h9
   rw [cptS_none hx]
   refine Zq <| Zg <| Zm Y <| Za Y <| Z0 <| Zx <| at_ret <| Zt ?_
   refine nx_end1 rfl results119 Y (by exact ⟨kq, _, _, rfl, hK, hR3, rfl⟩)
  ·
   obtain ⟨j1, hx⟩ : ∃ j1, (ersS j d).2.1 = some j1 := by
     rcases ers_code j d with ⟨j1, h9, _⟩ | ⟨_, h9⟩
     · exact ⟨j1, h9⟩
     · exact absurd h9 hq3
   rw [hx] at hK3 hwe
   obtain ⟨nq, rfl, hKn⟩ := hK3
   rw [cptS_some hx]
   refine at_skip <| Zx <| Zq <| Zg <| Zm Y <| Zm Y <| Zm Y <| Zp Y rfl <| Zh 0 underlying68 rfl rfl sizeOf66 Y ?_
   first | (refine op_v (p_indexAddr_arr0 underlying66 sizeOf65 Y Y ?_) ?_; (focus (first | omega | (rw [koC_size]; omega)))) | (refine op_v (p_indexAddr_arr underlying66 sizeOf65 Y Y ?_) ?_; (focus (first | omega | (rw [koC_size]; omega))))
   refine Ze (Zs sizeOf65 Y Y rfl (hc := by first | exact koC_o _ _ _ _ _ _ _ | (rw [Nat.zero_add]; exact koC_o _ _ _ _ _ _ _)) (hi := by first | omega | (rw [koC_size]; omega))) ?_
   rintro _ _ ⟨rfl, rfl⟩
   refine Z0 <| Zn [0, 2, 9] ?_
   refine Zx <| Zq <| Zg <| Zm Y <| Zm Y <| Zp Y rfl <| Zh 3 underlying68 rfl rfl sizeOf3 Y <| Zl isAgg3 Y (hv := by exact (koC_load _ _ _ _ _ _).2.2.2.1) ?_
   first | (refine op_v (p_add_nat (n := 1) Y Y ?_) ?_; (focus (omega))) | (refine op_v (p_add Y Y (IntWalk.i64_in _ ?_)) ?_; (focus (omega)))
   refine Zr [_] Y call73 Y rfl (rheader_spec (gen + 1) (by omega)) ?_
   rintro _ _ ⟨rfl, rfl⟩
   refine Ze (w_buildSlice (vs := [_]) (cs := [_]) underlying43 sizeOf9 zeroValue9 Y rfl rfl rfl rfl rfl) ?_
   rintro _ _ ⟨gq, rfl, rfl⟩
   refine Zm Y ?_
   refine Ze (w_append_row (by_ := 16) underlying43 (rfl : Tryz.prog.info? 9 = some Tryz.t9) rfl rfl rfl rfl Y (row_new _ gq [strV (hdr (gen + 1))] 1 rfl (by decide)) Y (hi) (by repeat (first | exact One.here _ _ | apply One.there)) (by repeat (first | exact One.here _ _ | apply One.there)) (by simp [Value.oneCell', strV]) (by (simp only [List.length_map, List.length_singleton]; omega)) (by (simp only [List.length_map, List.length_singleton]; omega))) ?_
   rintro _ _ ⟨sa, hra, rfl⟩
   obtain ⟨ga, ca, rfl⟩ := hra.form
   refine Zc [_, _] Y call63 Y rfl (kr_app_any j1 _ nq rq sk1 sa sd3 _ (recsOf (gen + 1) ls) hwe h3 hKn hR3 hra (by omega) (by unfold recsOf; simp; omega) hrl) ?_
   rintro _ _ ⟨_, ⟨sk2, sd4, rfl, hK4, hR4, rfl⟩, rfl⟩
   refine Za Y <| Z0 <| Zx <| at_ret ?_
   refine nx_end1 rfl results119 Y (by exact ⟨nq, _, _, rfl, hK4, hR4, rfl⟩)

theorem rscpt_max (sp gen : Nat) (sw : Bool) (p q v vl : Value) (err : Int) (ls : List (List UInt8)) (sl : List Chunk) (hl : Row 9 vl (ls.map strV) sl) (hn : ls.length ≤ 900000) (hb : ls.any isBig = false) (hg : 1000000000 ≤ gen) : DoesR Tryz.prog 65 #[.pointer (some ⟨sp, 0, none⟩), vl] [[(sp, .cells (koC sw (p) (q) gen v err) 68 (0, 0))], sl] (.int .i64 (240)) := by
 have hsw := swI_le sw
 obtain ⟨lp, lq, lk, lg, lv, le⟩ := koC_load sw (p) (q) (gen) (v) (err)
 refine spec_enter func65 rfl ntmps65 rfl ?_
 intro u R
 refine Zb [0, 1] ?_
 refine Zq <| Zg <| Za Y <| Z0 <| Zx <| Zq <| Zg <| Zm Y <| Zc [_] Y call118 Y rfl (ritems_spec hl (by omega) hb) ?_
 rintro _ _ ⟨_, ⟨w, si, rfl, hi2, rfl⟩, rfl⟩
 refine Zm Y <| Zd Y rfl <| Zd Y rfl <| Za Y <| Za Y <| Z0 <| Zx <| Zq <| Zq <| Zg <| Zm Y ?_
 first | refine op_v (p_not_dec Y) ?_ | refine op_v (p_not Y) ?_
 refine Zm Y ?_
 refine ops_split_bool (t := 16) Y rfl (fun hq => ?_) (fun hq => ?_)
 ·
  cases hq
 ·
  refine Zf Y Y <| op_wg Y (p_nilChk Y rfl) rfl rfl ?_
  refine op_wg Y (p_fieldAddr0 (off := 3) underlying68 rfl rfl sizeOf3 Y) rfl rfl ?_
  refine op_rg Y (by repeat (first | exact Has.here _ | apply Has.there)) (p_load isAgg3 Y (by first | exact lk | exact lg | exact lv | exact le | exact lp | exact lq | (rw [Nat.zero_add]; exact lp) | (rw [Nat.zero_add]; exact lq) | (rw [Nat.zero_add, Nat.mul_one]; first | exact lp | exact lq) | simpa using lp | simpa using lq)) rfl rfl ?_
  first | refine op_wg Y (p_geq_nat (n := 1000000000) Y Y) rfl rfl ?_ | refine op_wg Y (p_geq Y Y) rfl rfl ?_
  refine Zv (p_pick_f Y Y) <| Z0 <| Zn [0, 1, 5, 22] ?_
  refine Zx ?_
  first | refine at_if Y (fun hq9 => ?_) (fun hq9 => ?_) | refine at_if_bool Y (fun hq9 => ?_) (fun hq9 => ?_)
  ·
   refine Zq <| Zg <| Za Y <| Z0 <| Zx <| at_ret <| Zt ?_
   refine nx_end1 rfl results65 Y (by exact ⟨rfl, rfl⟩)
  ·
   exfalso; omega

theorem rscpt_err (sp gen : Nat) (sw : Bool) (p q v vl : Value) (err : Int) (ls : List (List UInt8)) (sl : List Chunk) (hl : Row 9 vl (ls.map strV) sl) (hn : ls.length ≤ 900000) (hb : ls.any isBig = false) (hg : gen < 1000000000) (he : err ≠ 0) : DoesR Tryz.prog 65 #[.pointer (some ⟨sp, 0, none⟩), vl] [[(sp, .cells (koC sw (p) (q) gen v err) 68 (0, 0))], sl] (.int .i64 (err)) := by
 have hsw := swI_le sw
 obtain ⟨lp, lq, lk, lg, lv, le⟩ := koC_load sw (p) (q) (gen) (v) (err)
 refine spec_enter func65 rfl ntmps65 rfl ?_
 intro u R
 refine Zb [0, 1] ?_
 refine Zq <| Zg <| Za Y <| Z0 <| Zx <| Zq <| Zg <| Zm Y <| Zc [_] Y call118 Y rfl (ritems_spec hl (by omega) hb) ?_
 rintro _ _ ⟨_, ⟨w, si, rfl, hi2, rfl⟩, rfl⟩
 refine Zm Y <| Zd Y rfl <| Zd Y rfl <| Za Y <| Za Y <| Z0 <| Zx <| Zq <| Zq <| Zg <| Zm Y ?_
 first | refine op_v (p_not_dec Y) ?_ | refine op_v (p_not Y) ?_
 refine Zm Y ?_
 refine ops_split_bool (t := 16) Y rfl (fun hq => ?_) (fun hq => ?_)
 ·
  cases hq
 ·
  refine Zf Y Y <| op_wg Y (p_nilChk Y rfl) rfl rfl ?_
  refine op_wg Y (p_fieldAddr0 (off := 3) underlying68 rfl rfl sizeOf3 Y) rfl rfl ?_
  refine op_rg Y (by repeat (first | exact Has.here _ | apply Has.there)) (p_load isAgg3 Y (by first | exact lk | exact lg | exact lv | exact le | exact lp | exact lq | (rw [Nat.zero_add]; exact lp) | (rw [Nat.zero_add]; exact lq) | (rw [Nat.zero_add, Nat.mul_one]; first | exact lp | exact lq) | simpa using lp | simpa using lq)) rfl rfl ?_
  first | refine op_wg Y (p_geq_nat (n := 1000000000) Y Y) rfl rfl ?_ | refine op_wg Y (p_geq Y Y) rfl rfl ?_
  refine Zv (p_pick_f Y Y) <| Z0 <| Zn [0, 1, 5, 22] ?_
  refine Zx ?_
  first | refine at_if Y (fun hq9 => ?_) (fun hq9 => ?_) | refine at_if_bool Y (fun hq9 => ?_) (fun hq9 => ?_)
  ·
   exfalso; omega
  ·
   refine at_skip <| Zx <| Zq <| Zq <| Zg <| Zm Y <| Zp Y rfl <| Zh 5 underlying68 rfl rfl sizeOf27 Y <| Zl isAgg27 Y (hv := by first | exact lk | exact lg | exact lv | exact le | exact lp | exact lq | (rw [Nat.zero_add]; exact lp) | (rw [Nat.zero_add]; exact lq) | (rw [Nat.zero_add, Nat.mul_one]; first | exact lp | exact lq) | simpa using lp | simpa using lq) ?_
   first | refine op_v (p_neq_nat (n := 0) Y Y) ?_ | refine op_v (p_neq Y Y) ?_
   refine Z0 <| Zx ?_
   first | refine at_if Y (fun hq2 => ?_) (fun hq2 => ?_) | refine at_if_bool Y (fun hq2 => ?_) (fun hq2 => ?_)
   ·
    refine Zq <| Zg <| Zm Y <| Zp Y rfl <| Zh 5 underlying68 rfl rfl sizeOf27 Y <| Zl isAgg27 Y (hv := by first | exact lk | exact lg | exact lv | exact le | exact lp | exact lq | (rw [Nat.zero_add]; exact lp) | (rw [Nat.zero_add]; exact lq) | (rw [Nat.zero_add, Nat.mul_one]; first | exact lp | exact lq) | simpa using lp | simpa using lq) ?_
    refine Za Y <| Z0 <| Zx <| at_ret <| Zt ?_
    refine nx_end1 rfl results65 Y (by exact ⟨rfl, rfl⟩)
   ·
    exact absurd he hq2

theorem rscpt_on (sp kq rq gen n k : Nat) (sw : Bool) (p v : Value) (ls : List (List UInt8)) (skq sdq : List Chunk) (j : JrS) (d : DiskS) (hb : ls.any isBig = false) (hg : gen < 1000000000) (hW : Wok n k d (some j)) (h1 : 1 ≤ n) (h3 : n ≤ 4194304) (hk : k ≤ 900000) (hK : KrR j kq rq skq) (hR : RdR d rq sdq) (its : List (List UInt8)) (sr sl : List Chunk) (vl : Value) (hrow : Row 9 v (its.map strV) sr) (hl : Row 9 vl (ls.map strV) sl) (hn : ls.length ≤ 900000) : Does Tryz.prog 65 #[.pointer (some ⟨sp, 0, none⟩), vl] [[(sp, .cells (koC sw (p) (.pointer (some ⟨kq, 0, none⟩)) gen v 0) 68 (0, 0))], sr, skq, sdq, sl] (fun r H' => ∃ nq skq' sdq', KrR (cptS j d gen ls).2.1 nq rq skq' ∧ RdR (cptS j d gen ls).2.2 rq sdq' ∧ (((cptS j d gen ls).1 ≠ 0 ∧ r = .int .i64 (cptS j d gen ls).1 ∧ ∃ e2 : Int, e2 = errS (cptS j d gen ls).1 ∧ H' = [[(sp, .cells (koC sw (p) (.pointer (some ⟨nq, 0, none⟩)) gen v e2) 68 (0, 0))], sr, skq', sdq', sl]) ∨ ((cptS j d gen ls).1 = 0 ∧ r = .int .i64 0 ∧ ∃ v' sr', Row 9 v' (ls.map strV) sr' ∧ H' = [[(sp, .cells (koC (!sw) (.pointer (some ⟨nq, 0, none⟩)) (p) (gen + 1) v' 0) 68 (0, 0))], sr', skq', sdq', sl]))) := by
 have hsw := swI_le sw
 obtain ⟨lp, lq, lk, lg, lv, le⟩ := koC_load sw (p) (.pointer (some ⟨kq, 0, none⟩)) (gen) (v) (0)
 have hml : maxLen = 9223372036854775807 := rfl
 refine spec_enter func65 rfl ntmps65 rfl ?_
 intro u R
 refine Zb [0, 1] ?_
 refine Zq <| Zg <| Za Y <| Z0 <| Zx <| Zq <| Zg <| Zm Y <| Zc [_] Y call118 Y rfl (ritems_spec hl (by omega) hb) ?_
 rintro _ _ ⟨_, ⟨w, si, rfl, hi2, rfl⟩, rfl⟩
 refine Zm Y <| Zd Y rfl <| Zd Y rfl <| Za Y <| Za Y <| Z0 <| Zx <| Zq <| Zq <| Zg <| Zm Y ?_
 first | refine op_v (p_not_dec Y) ?_ | refine op_v (p_not Y) ?_
 refine Zm Y ?_
 refine ops_split_bool (t := 16) Y rfl (fun hq => ?_) (fun hq => ?_)
 ·
  cases hq
 ·
  refine Zf Y Y <| op_wg Y (p_nilChk Y rfl) rfl rfl ?_
  refine op_wg Y (p_fieldAddr0 (off := 3) underlying68 rfl rfl sizeOf3 Y) rfl rfl ?_
  refine op_rg Y (by repeat (first | exact Has.here _ | apply Has.there)) (p_load isAgg3 Y (by first | exact lk | exact lg | exact lv | exact le | exact lp | exact lq | (rw [Nat.zero_add]; exact lp) | (rw [Nat.zero_add]; exact lq) | (rw [Nat.zero_add, Nat.mul_one]; first | exact lp | exact lq) | simpa using lp | simpa using lq)) rfl rfl ?_
  first | refine op_wg Y (p_geq_nat (n := 1000000000) Y Y) rfl rfl ?_ | refine op_wg Y (p_geq Y Y) rfl rfl ?_
  refine Zv (p_pick_f Y Y) <| Z0 <| Zn [0, 1, 5, 22] ?_
  refine Zx ?_
  first | refine at_if Y (fun hq9 => ?_) (fun hq9 => ?_) | refine at_if_bool Y (fun hq9 => ?_) (fun hq9 => ?_)
  ·
   exfalso; omega
  ·
   refine at_skip <| Zx <| Zq <| Zq <| Zg <| Zm Y <| Zp Y rfl <| Zh 5 underlying68 rfl rfl sizeOf27 Y <| Zl isAgg27 Y (hv := by first | exact lk | exact lg | exact lv | exact le | exact lp | exact lq | (rw [Nat.zero_add]; exact lp) | (rw [Nat.zero_add]; exact lq) | (rw [Nat.zero_add, Nat.mul_one]; first | exact lp | exact lq) | simpa using lp | simpa using lq) ?_
   first | refine op_v (p_neq_nat (n := 0) Y Y) ?_ | refine op_v (p_neq Y Y) ?_
   refine Z0 <| Zx ?_
   first | refine at_if Y (fun hq2 => ?_) (fun hq2 => ?_) | refine at_if_bool Y (fun hq2 => ?_) (fun hq2 => ?_)
   ·
    exact absurd rfl hq2
   ·
    refine at_skip <| Zx <| Zq <| Zg <| Zm Y <| Zp Y rfl <| Zh 2 underlying68 rfl rfl sizeOf3 Y <| Zl isAgg3 Y (hv := by first | exact lk | exact lg | exact lv | exact le | exact lp | exact lq | (rw [Nat.zero_add]; exact lp) | (rw [Nat.zero_add]; exact lq) | (rw [Nat.zero_add, Nat.mul_one]; first | exact lp | exact lq) | simpa using lp | simpa using lq) ?_
    first | (refine op_v (p_sub_nat (m := 1) Y Y ?_ ?_) ?_; (focus (omega)); (focus (omega))) | (refine op_v (p_sub Y Y (IntWalk.i64_in _ ?_)) ?_; (focus (omega)))
    refine Za Y <| Z0 <| Zx <| Zq <| Zg <| Zm Y <| Zm Y <| Zm Y <| Zc [_, _, _] Y call119 Y rfl (rsrep_spec sp kq rq gen n k sw p v 0 ls skq sdq j d hb hg hW h1 h3 hk hK hR w si hn hi2) ?_
    rintro _ _ ⟨_, ⟨nq, sk2, sd2, rfl, hK2, hR2, rfl⟩, rfl⟩
    refine Za Y <| Z0 <| Zn [0, 1, 7, 8] ?_
    refine Zx <| Zq <| Zq <| Zg <| Zm Y ?_
    first | refine op_v (p_neq_nat (n := 0) Y Y) ?_ | refine op_v (p_neq Y Y) ?_
    refine Zm Y ?_
    first | refine ops_split (t := 43) Y rfl (fun hr1 => ?_) (fun hr1 => ?_) | refine ops_split_bool (t := 43) Y rfl (fun hr1 => ?_) (fun hr1 => ?_)
    ·
     refine Zf Y Y ?_
     first | refine op_wg Y (p_neq_nat (n := 231) Y Y) rfl rfl ?_ | refine op_wg Y (p_neq Y Y) rfl rfl ?_
     refine Zv (p_pick_t Y Y) <| Z0 <| Zx ?_
     first | refine at_if Y (fun hr2 => ?_) (fun hr2 => ?_) | refine at_if_bool Y (fun hr2 => ?_) (fun hr2 => ?_)
     ·
      refine Zg <| Zm Y <| Zm Y <| Zp Y rfl <| Zh 5 underlying68 rfl rfl sizeOf27 Y <| Ze (Zs sizeOf27 Y Y rfl (hc := by exact koC_e _ _ _ _ _ _ _) (hi := by first | omega | (rw [koC_size]; omega))) ?_
      rintro _ _ ⟨rfl, rfl⟩
      refine Z0 <| Zx <| Zq <| Zq <| Zg <| Zm Y ?_
      first | refine op_v (p_neq_nat (n := 0) Y Y) ?_ | refine op_v (p_neq Y Y) ?_
      refine Z0 <| Zn [0, 1, 7, 8, 52] ?_
      refine Zx ?_
      first | refine at_if Y (fun hr3 => ?_) (fun hr3 => ?_) | refine at_if_bool Y (fun hr3 => ?_) (fun hr3 => ?_)
      ·
       refine Zq <| Zg <| Zm Y <| Za Y <| Z0 <| Zx <| at_ret <| Zt ?_
       refine nx_end1 rfl results65 Y (by first | exact ⟨nq, _, _, hK2, hR2, .inl ⟨hr3, rfl, _, (errS_no hr2).symm, rfl⟩⟩ | exact ⟨nq, _, _, hK2, hR2, .inl ⟨hr3, rfl, _, (errS_full hr2).symm, rfl⟩⟩)
      ·
       exact (hr3 hr1).elim
     ·
      refine at_skip <| Zx <| Zq <| Zq <| Zg <| Zm Y ?_
      first | refine op_v (p_neq_nat (n := 0) Y Y) ?_ | refine op_v (p_neq Y Y) ?_
      refine Z0 <| Zx ?_
      first | refine at_if Y (fun hr3 => ?_) (fun hr3 => ?_) | refine at_if_bool Y (fun hr3 => ?_) (fun hr3 => ?_)
      ·
       refine Zq <| Zg <| Zm Y <| Za Y <| Z0 <| Zx <| at_ret <| Zt ?_
       refine nx_end1 rfl results65 Y (by first | exact ⟨nq, _, _, hK2, hR2, .inl ⟨hr3, rfl, _, (errS_no hr2).symm, rfl⟩⟩ | exact ⟨nq, _, _, hK2, hR2, .inl ⟨hr3, rfl, _, (errS_full hr2).symm, rfl⟩⟩)
      ·
       exact (hr3 hr1).elim
    ·
     refine op_skip Y rfl <| op_skip Y rfl <| Zv (p_pick_f Y Y) <| Z0 <| Zx <| at_else Y <| at_skip <| Zx <| Zq <| Zq <| Zg <| Zm Y ?_
     first | refine op_v (p_neq_nat (n := 0) Y Y) ?_ | refine op_v (p_neq Y Y) ?_
     refine Z0 <| Zx ?_
     first | refine at_if Y (fun hr3 => ?_) (fun hr3 => ?_) | refine at_if_bool Y (fun hr3 => ?_) (fun hr3 => ?_)
     ·
      exact (hr1 hr3).elim
     ·
      refine at_skip <| Zx <| Zq <| Zg <| Zm Y <| Zm Y <| Zp Y rfl <| Zh 2 underlying68 rfl rfl sizeOf3 Y <| Ze (Zs sizeOf3 Y Y rfl (hc := by exact koC_s _ _ _ _ _ _) (hi := by first | omega | (rw [koC_size]; omega))) ?_
      rintro _ _ ⟨rfl, rfl⟩
      refine Z0 <| Zn [0, 1] ?_
      refine Zx <| Zq ?_
      have lg2 := (koC_load (!sw) (.pointer (some ⟨nq, 0, none⟩)) (p) gen v 0).2.2.2.1
      refine Zg <| Zm Y <| Zp Y rfl <| Zh 3 underlying68 rfl rfl sizeOf3 Y <| Zl isAgg3 Y (hv := by exact lg2) ?_
      first | (refine op_v (p_add_nat (n := 1) Y Y ?_) ?_; (focus (omega))) | (refine op_v (p_add Y Y (IntWalk.i64_in _ ?_)) ?_; (focus (omega)))
      refine Zp Y rfl <| Zh 3 underlying68 rfl rfl sizeOf3 Y <| Ze (Zs sizeOf3 Y Y rfl (hc := by exact koC_g _ _ _ _ _ _ _) (hi := by first | omega | (rw [koC_size]; omega))) ?_
      rintro _ _ ⟨rfl, rfl⟩
      refine Z0 <| Zx <| Zq <| Zg <| Zm Y <| Ze (w_buildSlice0 underlying43 sizeOf9) ?_
      rintro _ _ ⟨ge, rfl, rfl⟩
      refine Zm Y ?_
      refine Ze (w_append_row (by_ := 16) underlying43 (rfl : Tryz.prog.info? 9 = some Tryz.t9) rfl rfl rfl rfl Y (row_new _ ge [] 0 rfl (Nat.zero_le _)) Y (hl) (by repeat (first | exact One.here _ _ | apply One.there)) (by repeat (first | exact One.here _ _ | apply One.there)) (by simp [Value.oneCell', strV]) (by (simp only [List.length_map, List.length_nil]; omega)) (by (simp only [List.length_map, List.length_nil]; omega))) ?_
      rintro _ _ ⟨sa, hra, rfl⟩
      rw [List.nil_append] at hra
      obtain ⟨ga, ca, rfl⟩ := hra.form
      refine Zp Y rfl <| Zh 4 underlying68 rfl rfl sizeOf43 Y <| Ze (Zs sizeOf43 Y Y rfl (hc := by exact koC_v _ _ _ _ _ _ _) (hi := by first | omega | (rw [koC_size]; omega))) ?_
      rintro _ _ ⟨rfl, rfl⟩
      refine Z0 <| Zn [] ?_
      refine Zx <| Zq <| Zg <| Za Y <| Z0 <| Zx <| at_ret ?_
      refine nx_end1 rfl results65 Y (by exact ⟨nq, _, _, hK2, hR2, .inr ⟨Classical.not_not.1 hr3, rfl, _, sa, hra, rfl⟩⟩)

end Go.Proofs.YthbadolcncojbaaGreatDoor
