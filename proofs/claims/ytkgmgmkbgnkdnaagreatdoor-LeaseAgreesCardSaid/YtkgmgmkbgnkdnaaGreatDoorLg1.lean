/- Rows and changes in plain words; the reference of layer 3. -/
import Derived.Test.YtkgmgmkbgnkdnaaGreatDoorEz
import Derived.Test.YtkgmgmkbgnkdnaaGreatDoorEx5
import Derived.Test.YtkgmgmkbgnkdnaaGreatDoorWi2

namespace Go.Proofs.YtkgmgmkbgnkdnaaGreatDoor
open Go.Proofs.Tryz
open Go Go.RowKit Gw
set_option linter.unusedVariables false
set_option linter.unusedSimpArgs false
set_option maxRecDepth 100000
attribute [local irreducible] Gw.At Gw.Nx Gw.Ops
structure RowM where
  t : Int
  k : Int
  v : V3
deriving DecidableEq
structure Chg where
  t : Int
  k : Int
  had : Bool
  o : V3
  has : Bool
  n : V3
deriving DecidableEq
def RowM.zero : RowM := ⟨0, 0, V3.zero⟩
def RowM.ok (r : RowM) : Prop := r.v.ok ∧ (0 ≤ r.t ∧ r.t ≤ 3) ∧ (1 ≤ r.k ∧ r.k ≤ 1000000)
instance (r : RowM) : Decidable r.ok := inferInstanceAs (Decidable (_ ∧ _ ∧ _))
def Chg.before (c : Chg) : RowM := if c.had then ⟨c.t, c.k, c.o⟩ else RowM.zero
def Chg.after (c : Chg) : RowM := if c.has then ⟨c.t, c.k, c.n⟩ else RowM.zero
theorem before_t {c : Chg} (h : c.had = true) : c.before = ⟨c.t, c.k, c.o⟩ := if_pos h
theorem before_f {c : Chg} (h : c.had = false) : c.before = RowM.zero := if_neg (by rw [h]; decide)
theorem after_t {c : Chg} (h : c.has = true) : c.after = ⟨c.t, c.k, c.n⟩ := if_pos h
theorem after_f {c : Chg} (h : c.has = false) : c.after = RowM.zero := if_neg (by rw [h]; decide)
def Chg.ok (c : Chg) : Prop := ¬ ((¬ c.had ∧ ¬ c.has) ∨ (c.had ∧ c.has ∧ c.o = c.n)) ∧ ¬ ((c.had ∧ ¬ c.before.ok) ∨ (c.has ∧ ¬ c.after.ok)) ∧ (c.had ∨ c.o = V3.zero) ∧ (c.has ∨ c.n = V3.zero)
instance (c : Chg) : Decidable c.ok := inferInstanceAs (Decidable (_ ∧ _ ∧ _ ∧ _))

theorem r3_within (n lo hi : Int) : DoesR Tryz.prog 94 #[.int .i64 n, .int .i64 lo, .int .i64 hi] [] (.bool (decide (lo ≤ n ∧ n ≤ hi))) := by
 refine spec_enter func94 rfl ntmps94 rfl ?_
 intro u R
 refine Zb [0, 1, 2] ?_
 refine Zq <| Zg <| Za Y <| Z0 <| Zx <| Zq <| Zg <| Zm Y <| Zm Y <| Zv (p_geq Y Y) <| Zm Y ?_
 refine ops_split (t := 10) Y rfl (fun h1 => ?_) (fun h1 => ?_)
 ·
  refine Zf Y Y <| Zf Y Y <| Yg (p_leq Y Y) <| Zv (p_pick_t Y Y) <| Za Y <| Z0 <| Zx <| at_ret ?_
  refine nx_end1 rfl results94 Y (by exact ⟨by simp [h1], rfl⟩)
 refine op_skip Y rfl <| op_skip Y rfl <| op_skip Y rfl <| Zv (p_pick_f Y Y) <| Za Y <| Z0 <| Zx <| at_ret ?_
 refine nx_end1 rfl results94 Y (by exact ⟨by simp [h1], rfl⟩)

theorem r3_before (c : Chg) : DoesR Tryz.prog 130 #[.agg #[.int .i64 c.t, .int .i64 c.k, .bool c.had, .int .i64 c.o.a, .int .i64 c.o.b, .int .i64 c.o.c, .bool c.has, .int .i64 c.n.a, .int .i64 c.n.b, .int .i64 c.n.c]] [] (.tuple #[.agg #[.int .i64 c.before.t, .int .i64 c.before.k, .int .i64 c.before.v.a, .int .i64 c.before.v.b, .int .i64 c.before.v.c], .bool c.had]) := by
 refine spec_enter func130 rfl ntmps130 rfl ?_
 intro u R
 refine Zb [0] ?_
 refine Zq <| Zg <| Ze (w_box Y (cs := #[_, _, _, _, _, _, _, _, _, _]) rfl) ?_
 rintro _ _ ⟨b1, rfl, rfl⟩
 refine Ze (w_alloc zeroValue67 (cs := #[_, _, _, _, _]) rfl) ?_
 rintro _ _ ⟨b2, rfl, rfl⟩
 refine Za Y <| Z0 <| Zx <| Zq <| Zq <| Zg <| Zh 2 underlying55 rfl rfl sizeOf4 Y <| Zl isAgg4 Y ?_
 refine Zv (p_not Y) <| Z0 <| Zx ?_
 refine at_if_bool Y (fun hh => ?_) (fun hh => ?_)
 ·
  refine Zq <| Zg <| Zv (p_build (vs := []) (cs := #[_, _, _, _, _]) Y (run_build_struct (pl := #[(0, 1), (1, 1), (2, 3)]) zeroValue67 underlying67 (fun _ => by kernel_rfl) rfl)) ?_
  refine Xe (w_store_agg sizeOf67 Y Y (by (simp [Value.oneCell']; done)) Wu (by rfl) (by first | rfl | (simp; done)) Wn (by exact free_zero _)) ?_
  refine Za Y <| Z0 <| Zx <| at_ret <| Zt ?_
  refine nx_endct rfl results130 Y Wh (loadVar_agg isAgg67 sizeOf67 Wn (rfl)) Y (by simp only [Bool.not_eq_eq_eq_not, Bool.not_true, Bool.not_false] at hh; exact ⟨by (rw [before_f hh, hh]; rfl), rfl⟩)
 refine at_skip <| Zx <| Zq <| Zg <| Zh 0 underlying55 rfl rfl sizeOf3 Y <| Zl isAgg3 Y ?_
 refine Zh 1 underlying55 rfl rfl sizeOf3 Y <| Zl isAgg3 Y ?_
 refine Zh 3 underlying55 rfl rfl sizeOf53 Y <| Zo Wh (p_load_agg (cs := #[_, _, _]) isAgg53 sizeOf53 Y Wn (by rfl)) ?_
 refine Zv (p_build (vs := [(0, _), (1, _), (2, _)]) (cs := #[_, _, _, _, _]) Y (run_build_struct (pl := #[(0, 1), (1, 1), (2, 3)]) zeroValue67 underlying67 (fun _ => by kernel_rfl) rfl)) ?_
 refine Xe (w_store_agg sizeOf67 Y Y (by (simp [Value.oneCell', Value.cells]; done)) Wu (by rfl) (by first | rfl | (simp; done)) Wn (by exact free_zero _)) ?_
 refine Za Y <| Z0 <| Zn [2, 3] ?_
 refine Zx <| at_ret ?_
 refine nx_endct rfl results130 Y Wh (loadVar_agg isAgg67 sizeOf67 Wn (rfl)) Y (by simp only [Bool.not_eq_eq_eq_not, Bool.not_true, Bool.not_false] at hh; exact ⟨by (rw [before_t hh, hh]; rfl), rfl⟩)

theorem r3_after (c : Chg) : DoesR Tryz.prog 47 #[.agg #[.int .i64 c.t, .int .i64 c.k, .bool c.had, .int .i64 c.o.a, .int .i64 c.o.b, .int .i64 c.o.c, .bool c.has, .int .i64 c.n.a, .int .i64 c.n.b, .int .i64 c.n.c]] [] (.tuple #[.agg #[.int .i64 c.after.t, .int .i64 c.after.k, .int .i64 c.after.v.a, .int .i64 c.after.v.b, .int .i64 c.after.v.c], .bool c.has]) := by
 refine spec_enter func47 rfl ntmps47 rfl ?_
 intro u R
 refine Zb [0] ?_
 refine Zq <| Zg <| Ze (w_box Y (cs := #[_, _, _, _, _, _, _, _, _, _]) rfl) ?_
 rintro _ _ ⟨b1, rfl, rfl⟩
 refine Ze (w_alloc zeroValue67 (cs := #[_, _, _, _, _]) rfl) ?_
 rintro _ _ ⟨b2, rfl, rfl⟩
 refine Za Y <| Z0 <| Zx <| Zq <| Zq <| Zg <| Zh 6 underlying55 rfl rfl sizeOf4 Y <| Zl isAgg4 Y ?_
 refine Zv (p_not Y) <| Z0 <| Zx ?_
 refine at_if_bool Y (fun hh => ?_) (fun hh => ?_)
 ·
  refine Zq <| Zg <| Zv (p_build (vs := []) (cs := #[_, _, _, _, _]) Y (run_build_struct (pl := #[(0, 1), (1, 1), (2, 3)]) zeroValue67 underlying67 (fun _ => by kernel_rfl) rfl)) ?_
  refine Xe (w_store_agg sizeOf67 Y Y (by (simp [Value.oneCell']; done)) Wu (by rfl) (by first | rfl | (simp; done)) Wn (by exact free_zero _)) ?_
  refine Za Y <| Z0 <| Zx <| at_ret <| Zt ?_
  refine nx_endct rfl results47 Y Wh (loadVar_agg isAgg67 sizeOf67 Wn (rfl)) Y (by simp only [Bool.not_eq_eq_eq_not, Bool.not_true, Bool.not_false] at hh; exact ⟨by (rw [after_f hh, hh]; rfl), rfl⟩)
 refine at_skip <| Zx <| Zq <| Zg <| Zh 0 underlying55 rfl rfl sizeOf3 Y <| Zl isAgg3 Y ?_
 refine Zh 1 underlying55 rfl rfl sizeOf3 Y <| Zl isAgg3 Y ?_
 refine Zh 7 underlying55 rfl rfl sizeOf53 Y <| Zo Wh (p_load_agg (cs := #[_, _, _]) isAgg53 sizeOf53 Y Wn (by rfl)) ?_
 refine Zv (p_build (vs := [(0, _), (1, _), (2, _)]) (cs := #[_, _, _, _, _]) Y (run_build_struct (pl := #[(0, 1), (1, 1), (2, 3)]) zeroValue67 underlying67 (fun _ => by kernel_rfl) rfl)) ?_
 refine Xe (w_store_agg sizeOf67 Y Y (by (simp [Value.oneCell', Value.cells]; done)) Wu (by rfl) (by first | rfl | (simp; done)) Wn (by exact free_zero _)) ?_
 refine Za Y <| Z0 <| Zn [2, 3] ?_
 refine Zx <| at_ret ?_
 refine nx_endct rfl results47 Y Wh (loadVar_agg isAgg67 sizeOf67 Wn (rfl)) Y (by simp only [Bool.not_eq_eq_eq_not, Bool.not_true, Bool.not_false] at hh; exact ⟨by (rw [after_t hh, hh]; rfl), rfl⟩)

theorem r3_valid (r : RowM) : DoesR Tryz.prog 131 #[.agg #[.int .i64 r.t, .int .i64 r.k, .int .i64 r.v.a, .int .i64 r.v.b, .int .i64 r.v.c]] [] (.bool (decide r.ok)) := by
 refine spec_enter func131 rfl ntmps131 rfl ?_
 intro u R
 refine Zb [0] ?_
 refine Zq <| Zg <| Ze (w_box Y (cs := #[_, _, _, _, _]) rfl) ?_
 rintro _ _ ⟨b1, rfl, rfl⟩
 refine Za Y <| Z0 <| Zx <| Zq <| Zq <| Zg <| Za Y <| Z0 <| Zx <| at_block <| Zb [3, 1] ?_
 refine at_loopB (e0 := [(3, _)]) (H0 := _) (n := _) (fun m e H => ∃ (i : Nat), m = 3 - i ∧ (i ≤ 3 ∧ (∀ j, j < i → inV (r.v.get j))) ∧ e = [(3, .int .i64 (i : Int))] ∧ H = []) (by exact ⟨0, rfl, ⟨by omega, by intro j hj; omega⟩, rfl, rfl⟩) Wp ?_
 rintro _ _ _ ⟨i, rfl, ⟨hi, hall⟩, rfl, rfl⟩
 refine Zq <| Zq <| Zg <| Zm Y <| Zv (p_lss_nat (n := 3) Y Y) <| Z0 <| Zx ?_
 refine at_if Y (fun hlt => ?_) (fun hlt => ?_)
 ·
  refine at_skip <| Zx <| Zq <| at_block <| Zq <| Zg <| Zm Y <| Zh 2 underlying67 rfl rfl sizeOf53 Y ?_
  (refine op_v (p_indexAddr_arr underlying53 sizeOf3 Y Y ?_) ?_; (focus (omega)))
  refine Zl isAgg3 Y (hv := by rw [Nat.mul_one]; exact v3_at _ _ r.v _ (by omega)) ?_
  refine Xr [_, _, _] Y call94 Y rfl (r3_within _ _ _) ?_
  refine Zv (p_not_dec Y) <| Z0 <| Zx ?_
  refine at_if Y (fun hbad => ?_) (fun hbad => ?_)
  ·
   refine Zq <| Zg <| Za Y <| Z0 <| Zx <| at_ret <| nx_block_ret <| Zt <| Zt <| nx_block_ret <| Zt ?_
   refine nx_end1 rfl results131 Y (by exact ⟨by rw [decide_eq_false (fun h9 : r.ok => hbad (v3_ok.1 h9.1 i (by omega)))], rfl⟩)
  refine at_skip <| nx_block_normal <| Zx <| Zg <| Zm Y <| Ya (n := 1) Y Y <| Za Y <| Z0 <| Zn [3, 1] ?_
  refine nx_againB (e' := [(3, _)]) (m := _) (H' := _) (by exact ⟨i + 1, rfl, ⟨by omega, v3_more hall (Classical.not_not.1 hbad)⟩, rfl, rfl⟩)
 refine at_exit <| Zt <| Zt <| nx_block_exit <| Zx <| Zq <| Zg <| Zh 0 underlying67 rfl rfl sizeOf3 Y <| Zl isAgg3 Y ?_
 refine Xr [_, _, _] Y call94 Y rfl (r3_within _ _ _) ?_
 refine Zm Y ?_
 refine ops_split (t := 17) Y rfl (fun ht => ?_) (fun ht => ?_)
 ·
  refine Yf 1 underlying67 rfl rfl sizeOf3 Y <| Yl isAgg3 Y ?_
  refine Xr [_, _, _] Y call94 Y rfl (r3_within _ _ _) ?_
  refine Zv (p_pick_t Y Y) <| Za Y <| Z0 <| Zx <| at_ret ?_
  refine nx_end1 rfl results131 Y (by have hv : r.v.ok := v3_ok.2 (fun j hj => hall j (by omega)); exact ⟨by simp only [RowM.ok, hv, ht, true_and, false_and, decide_false], rfl⟩)
 refine op_skip Y rfl <| op_skip Y rfl <| op_skip Y rfl <| Zv (p_pick_f Y Y) <| Za Y <| Z0 <| Zx <| at_ret ?_
 refine nx_end1 rfl results131 Y (by have hv : r.v.ok := v3_ok.2 (fun j hj => hall j (by omega)); exact ⟨by simp only [RowM.ok, hv, ht, true_and, false_and, decide_false], rfl⟩)

theorem r3_validc (c : Chg) : DoesR Tryz.prog 95 #[.agg #[.int .i64 c.t, .int .i64 c.k, .bool c.had, .int .i64 c.o.a, .int .i64 c.o.b, .int .i64 c.o.c, .bool c.has, .int .i64 c.n.a, .int .i64 c.n.b, .int .i64 c.n.c]] [] (.bool (decide c.ok)) := by
 refine spec_enter func95 rfl ntmps95 rfl ?_
 intro u R
 refine Zb [0] ?_
 refine Zq <| Zg <| Ze (w_box Y (cs := #[_, _, _, _, _, _, _, _, _, _]) rfl) ?_
 rintro _ _ ⟨b1, rfl, rfl⟩
 refine Za Y <| Z0 <| Zx <| Zq <| Zg <| Zo Wh (p_load_agg (cs := #[_, _, _, _, _, _, _, _, _, _]) isAgg55 sizeOf55 Y Wn (by rfl)) ?_
 refine Xr [_] Y call130 Y rfl (r3_before c) ?_
 refine Zm Y <| Zd Y rfl <| Zd Y rfl <| Ze (w_alloc zeroValue67 (cs := #[_, _, _, _, _]) rfl) ?_
 rintro _ _ ⟨b2, rfl, rfl⟩
 refine Xe (w_store_agg sizeOf67 Y Y (by (simp [Value.oneCell']; done)) Wu (by rfl) (by first | rfl | (simp; done)) Wn (by exact free_zero _)) ?_
 refine Za Y <| Z0 <| Zx <| Zq <| Zg <| Zo Wh (p_load_agg (cs := #[_, _, _, _, _, _, _, _, _, _]) isAgg55 sizeOf55 Y Wn (by rfl)) ?_
 refine Xr [_] Y call47 Y rfl (r3_after c) ?_
 refine Zm Y <| Zd Y rfl <| Zd Y rfl <| Ze (w_alloc zeroValue67 (cs := #[_, _, _, _, _]) rfl) ?_
 rintro _ _ ⟨b3, rfl, rfl⟩
 refine Xe (w_store_agg sizeOf67 Y Y (by (simp [Value.oneCell']; done)) Wu (by rfl) (by first | rfl | (simp; done)) Wn (by exact free_zero _)) ?_
 refine Za Y <| Z0 <| Zn [1, 3, 4, 5, 6] ?_
 refine Zx <| Zq <| Zb [1, 3, 4, 5, 6] ?_
 refine at_cutB (e0 := []) (H0 := []) (fun e H => ∃ (b9 : Bool), (b9 = decide ((¬ c.had ∧ ¬ c.has) ∨ (c.had ∧ c.has ∧ c.o = c.n))) ∧ e = [(35, .bool b9)] ∧ H = []) Wp ?hx_1 ?hy_1
 case hx_1 =>
  refine Zg <| Zm Y <| Zv (p_not Y) <| Zm Y ?_
  refine ops_split_bool (t := 19) Y rfl (fun hc1 => ?_) (fun hc1 => ?_)
  ·
   refine Zf Y Y <| Yg (p_not Y) <| Zv (p_pick_t Y Y) <| Zm Y ?_
   refine ops_split_bool (t := 23) Y rfl (fun hc2 => ?_) (fun hc2 => ?_)
   ·
    refine op_skip Y rfl <| op_skip Y rfl <| op_skip Y rfl <| op_skip Y rfl <| op_skip Y rfl <| op_skip Y rfl <| op_skip Y rfl <| op_skip Y rfl <| op_skip Y rfl <| op_skip Y rfl <| op_skip Y rfl <| Zv (p_pick_t Y Y) <| Z0 <| Zn [35, 1, 3, 4, 5, 6] ?_
    refine nx_cutB (e' := [(35, _)]) (H' := _) (by exact ⟨_, by simp_all, rfl, rfl⟩)
   refine Zf Y Y <| Zf Y Y ?_
   refine ops_split_bool (t := 25) Y rfl (fun hc3 => ?_) (fun hc3 => ?_)
   ·
    refine Zf Y Y <| Yg (p_pick_t Y Y) <| Zf Y Y ?_
    refine ops_split_bool (t := 28) Y rfl (fun hc4 => ?_) (fun hc4 => ?_)
    ·
     refine Yf 3 underlying55 rfl rfl sizeOf53 Y <| op_rg Y Wh (p_load_agg (cs := #[_, _, _]) isAgg53 sizeOf53 Y Wn (by rfl)) rfl rfl ?_
     refine Yf 7 underlying55 rfl rfl sizeOf53 Y <| op_rg Y Wh (p_load_agg (cs := #[_, _, _]) isAgg53 sizeOf53 Y Wn (by rfl)) rfl rfl ?_
     refine Yg (p_eql_arr3 (by kernel_rfl) underlying53 underlying3 isAgg3 sizeOf3 Y Y) ?_
     refine Yg (p_pick_t Y Y) <| Zv (p_pick_f Y Y) <| Z0 <| Zn [35, 1, 3, 4, 5, 6] ?_
     refine nx_cutB (e' := [(35, _)]) (H' := _) (by exact ⟨_, by simp_all, rfl, rfl⟩)
    refine op_skip Y rfl <| op_skip Y rfl <| op_skip Y rfl <| op_skip Y rfl <| op_skip Y rfl <| Yg (p_pick_f Y Y) <| Zv (p_pick_f Y Y) <| Z0 <| Zn [35, 1, 3, 4, 5, 6] ?_
    refine nx_cutB (e' := [(35, _)]) (H' := _) (by exact ⟨_, by simp_all, rfl, rfl⟩)
   refine op_skip Y rfl <| Yg (p_pick_f Y Y) <| Zf Y Y <| op_skip Y rfl <| op_skip Y rfl <| op_skip Y rfl <| op_skip Y rfl <| op_skip Y rfl <| Yg (p_pick_f Y Y) <| Zv (p_pick_f Y Y) <| Z0 <| Zn [35, 1, 3, 4, 5, 6] ?_
   refine nx_cutB (e' := [(35, _)]) (H' := _) (by exact ⟨_, by simp_all, rfl, rfl⟩)
  refine op_skip Y rfl <| op_skip Y rfl <| Zv (p_pick_f Y Y) <| Zm Y <| Zf Y Y <| Zf Y Y ?_
  refine ops_split_bool (t := 25) Y rfl (fun hc5 => ?_) (fun hc5 => ?_)
  ·
   refine Zf Y Y <| Yg (p_pick_t Y Y) <| Zf Y Y ?_
   refine ops_split_bool (t := 28) Y rfl (fun hc6 => ?_) (fun hc6 => ?_)
   ·
    refine Yf 3 underlying55 rfl rfl sizeOf53 Y <| op_rg Y Wh (p_load_agg (cs := #[_, _, _]) isAgg53 sizeOf53 Y Wn (by rfl)) rfl rfl ?_
    refine Yf 7 underlying55 rfl rfl sizeOf53 Y <| op_rg Y Wh (p_load_agg (cs := #[_, _, _]) isAgg53 sizeOf53 Y Wn (by rfl)) rfl rfl ?_
    refine Yg (p_eql_arr3 (by kernel_rfl) underlying53 underlying3 isAgg3 sizeOf3 Y Y) ?_
    refine Yg (p_pick_t Y Y) <| Zv (p_pick_f Y Y) <| Z0 <| Zn [35, 1, 3, 4, 5, 6] ?_
    refine nx_cutB (e' := [(35, _)]) (H' := _) (by exact ⟨_, by simp_all, rfl, rfl⟩)
   refine op_skip Y rfl <| op_skip Y rfl <| op_skip Y rfl <| op_skip Y rfl <| op_skip Y rfl <| Yg (p_pick_f Y Y) <| Zv (p_pick_f Y Y) <| Z0 <| Zn [35, 1, 3, 4, 5, 6] ?_
   refine nx_cutB (e' := [(35, _)]) (H' := _) (by exact ⟨_, by simp_all, rfl, rfl⟩)
  refine op_skip Y rfl <| Yg (p_pick_f Y Y) <| Zf Y Y <| op_skip Y rfl <| op_skip Y rfl <| op_skip Y rfl <| op_skip Y rfl <| op_skip Y rfl <| Yg (p_pick_f Y Y) <| Zv (p_pick_f Y Y) <| Z0 <| Zn [35, 1, 3, 4, 5, 6] ?_
  refine nx_cutB (e' := [(35, _)]) (H' := _) (by exact ⟨_, by simp_all, rfl, rfl⟩)
 rintro _ _ ⟨b9, hb9, rfl, rfl⟩
 refine at_if_bool Y (fun hc7 => ?_) (fun hc7 => ?_)
 ·
  refine Zq <| Zg <| Za Y <| Z0 <| Zx <| at_ret <| Zt ?_
  refine nx_end1 rfl results95 Y (by exact ⟨by simp_all [Chg.ok], rfl⟩)
 refine at_skip <| Zx <| Zq <| Zb [3, 5, 1, 4, 6] ?_
 refine at_cutB (e0 := [(3, _), (5, _)]) (H0 := []) (fun e H => ∃ (b8 : Bool), (b8 = decide ((c.had ∧ ¬ c.before.ok) ∨ (c.has ∧ ¬ c.after.ok))) ∧ e = [(49, .bool b8)] ∧ H = []) Wp ?hx_10 ?hy_10
 case hx_10 =>
  refine Zg <| Zm Y <| Zm Y ?_
  refine ops_split_bool (t := 37) Y rfl (fun hc8 => ?_) (fun hc8 => ?_)
  ·
   refine op_rg Y Wh (p_load_agg (cs := #[_, _, _, _, _]) isAgg67 sizeOf67 Y Wn (by rfl)) rfl rfl ?_
   refine Xr [_] Y call131 Y rfl (r3_valid _) ?_
   refine Yg (p_not_dec Y) <| Zv (p_pick_t Y Y) <| Zm Y ?_
   refine ops_split (t := 42) Y rfl (fun hc9 => ?_) (fun hc9 => ?_)
   ·
    refine op_skip Y rfl <| op_skip Y rfl <| op_skip Y rfl <| op_skip Y rfl <| op_skip Y rfl <| op_skip Y rfl <| Zv (p_pick_t Y Y) <| Z0 <| Zn [49, 1, 4, 6] ?_
    refine nx_cutB (e' := [(49, _)]) (H' := _) (by exact ⟨_, by simp_all, rfl, rfl⟩)
   refine Zf Y Y <| Zf Y Y ?_
   refine ops_split_bool (t := 44) Y rfl (fun hc10 => ?_) (fun hc10 => ?_)
   ·
    refine op_rg Y Wh (p_load_agg (cs := #[_, _, _, _, _]) isAgg67 sizeOf67 Y Wn (by rfl)) rfl rfl ?_
    refine Xr [_] Y call131 Y rfl (r3_valid _) ?_
    refine Yg (p_not_dec Y) <| Yg (p_pick_t Y Y) <| Zv (p_pick_f Y Y) <| Z0 <| Zn [49, 1, 4, 6] ?_
    refine nx_cutB (e' := [(49, _)]) (H' := _) (by exact ⟨_, by simp_all, rfl, rfl⟩)
   refine op_skip Y rfl <| op_skip Y rfl <| op_skip Y rfl <| Yg (p_pick_f Y Y) <| Zv (p_pick_f Y Y) <| Z0 <| Zn [49, 1, 4, 6] ?_
   refine nx_cutB (e' := [(49, _)]) (H' := _) (by exact ⟨_, by simp_all, rfl, rfl⟩)
  refine op_skip Y rfl <| op_skip Y rfl <| op_skip Y rfl <| Zv (p_pick_f Y Y) <| Zm Y <| Zf Y Y <| Zf Y Y ?_
  refine ops_split_bool (t := 44) Y rfl (fun hc11 => ?_) (fun hc11 => ?_)
  ·
   refine op_rg Y Wh (p_load_agg (cs := #[_, _, _, _, _]) isAgg67 sizeOf67 Y Wn (by rfl)) rfl rfl ?_
   refine Xr [_] Y call131 Y rfl (r3_valid _) ?_
   refine Yg (p_not_dec Y) <| Yg (p_pick_t Y Y) <| Zv (p_pick_f Y Y) <| Z0 <| Zn [49, 1, 4, 6] ?_
   refine nx_cutB (e' := [(49, _)]) (H' := _) (by exact ⟨_, by simp_all, rfl, rfl⟩)
  refine op_skip Y rfl <| op_skip Y rfl <| op_skip Y rfl <| Yg (p_pick_f Y Y) <| Zv (p_pick_f Y Y) <| Z0 <| Zn [49, 1, 4, 6] ?_
  refine nx_cutB (e' := [(49, _)]) (H' := _) (by exact ⟨_, by simp_all, rfl, rfl⟩)
 rintro _ _ ⟨b8, hb8, rfl, rfl⟩
 refine at_if_bool Y (fun hc12 => ?_) (fun hc12 => ?_)
 ·
  refine Zq <| Zg <| Za Y <| Z0 <| Zx <| at_ret <| Zt ?_
  refine nx_end1 rfl results95 Y (by exact ⟨by simp_all [Chg.ok], rfl⟩)
 refine at_skip <| Zx <| Zq <| Zg <| Zm Y <| Zm Y ?_
 refine ops_split_bool (t := 51) Y rfl (fun hc13 => ?_) (fun hc13 => ?_)
 ·
  refine op_skip Y rfl <| op_skip Y rfl <| op_skip Y rfl <| op_skip Y rfl <| Zv (p_pick_t Y Y) <| Zm Y <| Zf Y Y <| Zf Y Y ?_
  refine ops_split_bool (t := 59) Y rfl (fun hc14 => ?_) (fun hc14 => ?_)
  ·
   refine op_skip Y rfl <| op_skip Y rfl <| op_skip Y rfl <| op_skip Y rfl <| Yg (p_pick_t Y Y) <| Zv (p_pick_t Y Y) <| Za Y <| Z0 <| Zn [2] ?_
   refine Zx <| at_ret ?_
   refine nx_end1 rfl results95 Y (by exact ⟨by simp_all [Chg.ok], rfl⟩)
  refine Yf 7 underlying55 rfl rfl sizeOf53 Y <| op_rg Y Wh (p_load_agg (cs := #[_, _, _]) isAgg53 sizeOf53 Y Wn (by rfl)) rfl rfl ?_
  refine Yg (p_build (vs := []) (cs := #[_, _, _]) Y (run_build_array zeroValue53 underlying53 sizeOf3 rfl)) ?_
  refine Yg (p_eql_arr3z (by kernel_rfl) underlying53 underlying3 isAgg3 sizeOf3 Y Y) ?_
  refine Yg (p_pick_f Y Y) <| Zv (p_pick_t Y Y) <| Za Y <| Z0 <| Zn [2] ?_
  refine Zx <| at_ret ?_
  refine nx_end1 rfl results95 Y (by exact ⟨by simp_all [Chg.ok], rfl⟩)
 refine Yf 3 underlying55 rfl rfl sizeOf53 Y <| op_rg Y Wh (p_load_agg (cs := #[_, _, _]) isAgg53 sizeOf53 Y Wn (by rfl)) rfl rfl ?_
 refine Yg (p_build (vs := []) (cs := #[_, _, _]) Y (run_build_array zeroValue53 underlying53 sizeOf3 rfl)) ?_
 refine Yg (p_eql_arr3z (by kernel_rfl) underlying53 underlying3 isAgg3 sizeOf3 Y Y) ?_
 refine Zv (p_pick_f Y Y) <| Zm Y ?_
 refine ops_split (t := 57) Y rfl (fun hc15 => ?_) (fun hc15 => ?_)
 ·
  refine Zf Y Y <| Zf Y Y ?_
  refine ops_split_bool (t := 59) Y rfl (fun hc16 => ?_) (fun hc16 => ?_)
  ·
   refine op_skip Y rfl <| op_skip Y rfl <| op_skip Y rfl <| op_skip Y rfl <| Yg (p_pick_t Y Y) <| Zv (p_pick_t Y Y) <| Za Y <| Z0 <| Zn [2] ?_
   refine Zx <| at_ret ?_
   refine nx_end1 rfl results95 Y (by exact ⟨by simp_all [Chg.ok], rfl⟩)
  refine Yf 7 underlying55 rfl rfl sizeOf53 Y <| op_rg Y Wh (p_load_agg (cs := #[_, _, _]) isAgg53 sizeOf53 Y Wn (by rfl)) rfl rfl ?_
  refine Yg (p_build (vs := []) (cs := #[_, _, _]) Y (run_build_array zeroValue53 underlying53 sizeOf3 rfl)) ?_
  refine Yg (p_eql_arr3z (by kernel_rfl) underlying53 underlying3 isAgg3 sizeOf3 Y Y) ?_
  refine Yg (p_pick_f Y Y) <| Zv (p_pick_t Y Y) <| Za Y <| Z0 <| Zn [2] ?_
  refine Zx <| at_ret ?_
  refine nx_end1 rfl results95 Y (by exact ⟨by simp_all [Chg.ok], rfl⟩)
 refine op_skip Y rfl <| op_skip Y rfl <| op_skip Y rfl <| op_skip Y rfl <| op_skip Y rfl <| op_skip Y rfl <| op_skip Y rfl <| Zv (p_pick_f Y Y) <| Za Y <| Z0 <| Zn [2] ?_
 refine Zx <| at_ret ?_
 refine nx_end1 rfl results95 Y (by exact ⟨by simp_all [Chg.ok], rfl⟩)

end Go.Proofs.YtkgmgmkbgnkdnaaGreatDoor
