/- predicate.effectOf, kinds, Touches. -/
/- predicate.kinds, Touches. -/
/- eval: folds, measures, joins. -/
import Derived.Test.YtkgmgmkbgnkdnaaGreatDoorEz
import Derived.Test.YtkgmgmkbgnkdnaaGreatDoorQe2
namespace Go.Proofs.YtkgmgmkbgnkdnaaGreatDoor
open Go.Proofs.Tryz
open Go Go.RowKit Gw
set_option linter.unusedVariables false
set_option linter.unusedSimpArgs false
set_option maxRecDepth 100000
attribute [local irreducible] Gw.At Gw.Nx Gw.Ops
def PtrRow (p : Option Addr) (o : Option RowM) (s : List Chunk) : Prop := match o with
  | none => p = none ∧ s = []
  | some r => ∃ b, p = some ⟨b, 0, none⟩ ∧ s = [(b, .cells #[.int .i64 r.t, .int .i64 r.k, .int .i64 r.v.a, .int .i64 r.v.b, .int .i64 r.v.c] 67 (0, 0))]
theorem PtrRow.some_ {p : Option Addr} {o : Option RowM} {s : List Chunk} (h : PtrRow p o s) : p.isSome = o.isSome := by
  cases o with
  | none => rw [h.1]; rfl
  | some r => obtain ⟨b, rfl, _⟩ := h; rfl
theorem half_opt (q : QM) (c : Chg) (th : Bool) (v : V3) : optQ q th (halfL c th v) = optQ q th ⟨c.t, c.k, v⟩ := by
  cases th with
  | false => rfl
  | true => rfl
theorem opt_no {q : QM} {b : Bool} {r : RowM} (h : b = false ∨ ¬ (r.t = q.tb ∧ q.lo ≤ valL r q.cl ∧ valL r q.cl ≤ q.hi)) : optQ q b r = none := by
  unfold optQ inQ
  rcases h with h | h
  · rw [h]; rfl
  · rw [decide_eq_false h, Bool.and_false]; rfl
theorem opt_yes {q : QM} {b : Bool} {r : RowM} (h : b = true) (h2 : r.t = q.tb ∧ q.lo ≤ valL r q.cl ∧ valL r q.cl ≤ q.hi) : optQ q b r = some r := by
  unfold optQ inQ
  rw [h, decide_eq_true h2]; rfl
theorem intKey : KeyOk Tryz.prog 3 (fun k : Int => .int .i64 k) (fun _ => True) := intKeyOk underlying3

theorem scanned_spec (q : QM) (hcl : 0 ≤ q.cl ∧ q.cl ≤ 3) (hbq : 0 ≤ q.bq ∧ q.bq ≤ 3) (bq : Nat) (r : RowM) (b : Bool) : Does Tryz.prog 90 #[.agg #[.int .i64 r.t, .int .i64 r.k, .int .i64 r.v.a, .int .i64 r.v.b, .int .i64 r.v.c], .bool b, .pointer (some ⟨bq, 0, none⟩)] [[(bq, .cells #[.int .i64 q.kd, .int .i64 q.tb, .int .i64 q.cl, .int .i64 q.lo, .int .i64 q.hi, .int .i64 q.bq, .int .i64 q.ot] 30 (0, 0))]] (fun v H' => ∃ p s, v = .tuple #[.pointer p, .int .i64 (mQ q (optQ q b r))] ∧ PtrRow p (optQ q b r) s ∧ H' = [s, [(bq, .cells #[.int .i64 q.kd, .int .i64 q.tb, .int .i64 q.cl, .int .i64 q.lo, .int .i64 q.hi, .int .i64 q.bq, .int .i64 q.ot] 30 (0, 0))]]) := by
 refine spec_enter func90 rfl ntmps90 rfl ?_
 intro u R
 refine Zb [0, 1, 2] ?_
 refine Zq <| Zg <| Ze (w_box Y (cs := #[_, _, _, _, _]) rfl) ?_
 rintro _ _ ⟨bx, rfl, rfl⟩
 refine Za Y <| Za Y <| Z0 <| Zx <| Zq <| Zg <| Zo Wh (p_load_agg (cs := #[_, _, _, _, _]) isAgg67 sizeOf67 Y Wb (by rfl)) ?_
 refine Zh 2 underlying30 rfl rfl sizeOf3 Y <| Zl isAgg3 Y ?_
 refine Xr [_, _] Y call56 Y rfl (rw_valueI r q.cl hcl) ?_
 refine Za Y <| Z0 <| Zx <| Zq <| Zq <| Zg <| Zm Y <| Zv (p_not Y) <| Zm Y ?_
 refine ops_split_bool (t := 14) Y rfl (fun h1 => ?_) (fun h1 => ?_)
 ·
  refine op_skip Y rfl <| op_skip Y rfl <| op_skip Y rfl <| op_skip Y rfl <| op_skip Y rfl <| Zv (p_pick_t Y Y) <| Zm Y <| op_skip Y rfl <| op_skip Y rfl <| op_skip Y rfl <| op_skip Y rfl <| Zv (p_pick_t Y Y) <| Zm Y <| op_skip Y rfl <| op_skip Y rfl <| op_skip Y rfl <| op_skip Y rfl <| Zv (p_pick_t Y Y) <| Z0 <| Zn [2, 3, 32] ?_
  refine Zx <| at_then Y <| Zq <| at_nil ?_
  refine Zg <| Za Y <| Za Y <| Z0 <| Zx <| at_ret <| Zt ?_
  refine nx_end2 rfl results90 Y Y (by
        have e9 : optQ q b r = none := opt_no (by exact .inl (by simpa using h1))
        exact ⟨none, [], by rw [e9]; rfl, by rw [e9]; exact ⟨rfl, rfl⟩, rfl⟩)
 refine Yf 0 underlying67 rfl rfl sizeOf3 Y <| Yl isAgg3 Y ?_
 refine Yf 1 underlying30 rfl rfl sizeOf3 Y <| Yl isAgg3 Y ?_
 refine Yg (p_neq Y Y) <| Zv (p_pick_f Y Y) <| Zm Y ?_
 refine ops_split (t := 21) Y rfl (fun h2 => ?_) (fun h2 => ?_)
 ·
  refine op_skip Y rfl <| op_skip Y rfl <| op_skip Y rfl <| op_skip Y rfl <| Zv (p_pick_t Y Y) <| Zm Y <| op_skip Y rfl <| op_skip Y rfl <| op_skip Y rfl <| op_skip Y rfl <| Zv (p_pick_t Y Y) <| Z0 <| Zn [2, 3, 32] ?_
  refine Zx <| at_then Y <| Zq <| at_nil ?_
  refine Zg <| Za Y <| Za Y <| Z0 <| Zx <| at_ret <| Zt ?_
  refine nx_end2 rfl results90 Y Y (by
        have e9 : optQ q b r = none := opt_no (by exact .inr (by omega))
        exact ⟨none, [], by rw [e9]; rfl, by rw [e9]; exact ⟨rfl, rfl⟩, rfl⟩)
 refine Zf Y Y <| Yf 3 underlying30 rfl rfl sizeOf3 Y <| Yl isAgg3 Y ?_
 refine Yg (p_lss Y Y) <| Zv (p_pick_f Y Y) <| Zm Y ?_
 refine ops_split (t := 27) Y rfl (fun h3 => ?_) (fun h3 => ?_)
 ·
  refine op_skip Y rfl <| op_skip Y rfl <| op_skip Y rfl <| op_skip Y rfl <| Zv (p_pick_t Y Y) <| Z0 <| Zn [2, 3, 32] ?_
  refine Zx <| at_then Y <| Zq <| at_nil ?_
  refine Zg <| Za Y <| Za Y <| Z0 <| Zx <| at_ret <| Zt ?_
  refine nx_end2 rfl results90 Y Y (by
        have e9 : optQ q b r = none := opt_no (by exact .inr (by omega))
        exact ⟨none, [], by rw [e9]; rfl, by rw [e9]; exact ⟨rfl, rfl⟩, rfl⟩)
 refine Zf Y Y <| Yf 4 underlying30 rfl rfl sizeOf3 Y <| Yl isAgg3 Y ?_
 refine Yg (p_gtr Y Y) <| Zv (p_pick_f Y Y) <| Z0 <| Zn [2, 3, 32] ?_
 refine Zx ?_
 refine at_if Y (fun h4 => ?_) (fun h4 => ?_)
 ·
  refine Zq <| at_nil ?_
  refine Zg <| Za Y <| Za Y <| Z0 <| Zx <| at_ret <| Zt ?_
  refine nx_end2 rfl results90 Y Y (by
        have e9 : optQ q b r = none := opt_no (by exact .inr (by omega))
        exact ⟨none, [], by rw [e9]; rfl, by rw [e9]; exact ⟨rfl, rfl⟩, rfl⟩)
 refine at_skip <| Zx <| Zq <| Zg <| Zo Wh (p_load_agg (cs := #[_, _, _, _, _]) isAgg67 sizeOf67 Y Wb (by rfl)) ?_
 refine Zh 5 underlying30 rfl rfl sizeOf3 Y <| Zl isAgg3 Y ?_
 refine Xr [_, _] Y call56 Y rfl (rw_valueI r q.bq hbq) ?_
 refine Za Y <| Za Y <| Z0 <| Zx <| at_ret ?_
 refine nx_end2 rfl results90 Y Y (by
       have e9 : optQ q b r = some r := opt_yes (by simpa using h1) (by omega)
       exact ⟨_, _, by rw [e9]; rfl, by rw [e9]; exact ⟨bx, rfl, rfl⟩, rfl⟩)

theorem rw_before (c : Chg) : DoesR Tryz.prog 91 #[.agg #[.int .i64 c.t, .int .i64 c.k, .bool c.had, .int .i64 c.o.a, .int .i64 c.o.b, .int .i64 c.o.c, .bool c.has, .int .i64 c.n.a, .int .i64 c.n.b, .int .i64 c.n.c]] [] (.tuple #[.agg #[.int .i64 (halfL c c.had c.o).t, .int .i64 (halfL c c.had c.o).k, .int .i64 (halfL c c.had c.o).v.a, .int .i64 (halfL c c.had c.o).v.b, .int .i64 (halfL c c.had c.o).v.c], .bool c.had]) := by
 refine spec_enter func91 rfl ntmps91 rfl ?_
 intro u R
 refine Zb [0] ?_
 refine Zq <| Zg <| Ze (w_box Y (cs := #[_, _, _, _, _, _, _, _, _, _]) rfl) ?_
 rintro _ _ ⟨b1, rfl, rfl⟩
 refine Ze (w_alloc zeroValue67 (cs := #[_, _, _, _, _]) rfl) ?_
 rintro _ _ ⟨b2, rfl, rfl⟩
 refine Za Y <| Z0 <| Zx <| Zq <| Zg <| Zo Wh (p_load_agg (cs := #[_, _, _, _, _, _, _, _, _, _]) isAgg55 sizeOf55 Y Wb (by rfl)) ?_
 refine Zh 2 underlying55 rfl rfl sizeOf4 Y <| Zl isAgg4 Y ?_
 refine Zh 3 underlying55 rfl rfl sizeOf53 Y <| Zo Wh (p_load_agg (cs := #[_, _, _]) isAgg53 sizeOf53 Y Wb (by rfl)) ?_
 refine Xr [_, _, _] Y call97 Y rfl (rw_half c c.had c.o) ?_
 refine Zd Y rfl <| Zd Y rfl <| Xe (w_store_agg sizeOf67 Y Y (by (simp [Value.oneCell']; done)) Wu (by rfl) (by first | rfl | (simp; done)) Wb (by exact free_zero _)) ?_
 refine Za Y <| Z0 <| Zn [2, 3] ?_
 refine Zx <| at_ret ?_
 refine nx_endct rfl results91 Y Wh (loadVar_agg isAgg67 sizeOf67 Wn (rfl)) Y (by exact ⟨rfl, rfl⟩)

set_option maxHeartbeats 1000000 in
theorem effect_spec (q : QM) (hcl : 0 ≤ q.cl ∧ q.cl ≤ 3) (hbq : 0 ≤ q.bq ∧ q.bq ≤ 3) (c : Chg) : Does Tryz.prog 42 #[.agg #[.int .i64 q.kd, .int .i64 q.tb, .int .i64 q.cl, .int .i64 q.lo, .int .i64 q.hi, .int .i64 q.bq, .int .i64 q.ot], .agg #[.int .i64 c.t, .int .i64 c.k, .bool c.had, .int .i64 c.o.a, .int .i64 c.o.b, .int .i64 c.o.c, .bool c.has, .int .i64 c.n.a, .int .i64 c.n.b, .int .i64 c.n.c]] [] (fun v H' => ∃ p1 p2 s1 s2, v = .agg #[.int .i64 q.kd, .int .i64 q.tb, .int .i64 q.cl, .int .i64 q.lo, .int .i64 q.hi, .int .i64 q.bq, .int .i64 q.ot, .int .i64 c.t, .int .i64 c.k, .bool c.had, .int .i64 c.o.a, .int .i64 c.o.b, .int .i64 c.o.c, .bool c.has, .int .i64 c.n.a, .int .i64 c.n.b, .int .i64 c.n.c, .pointer p1, .pointer p2, .int .i64 (mQ q (bfQ q c)), .int .i64 (mQ q (afQ q c))] ∧ PtrRow p1 (bfQ q c) s1 ∧ PtrRow p2 (afQ q c) s2 ∧ H' = [s1, s2]) := by
 refine spec_enter func42 rfl ntmps42 rfl ?_
 intro u R
 refine Zb [0, 1] ?_
 refine Zq <| Zg <| Ze (w_box Y (cs := #[_, _, _, _, _, _, _]) rfl) ?_
 rintro _ _ ⟨bq, rfl, rfl⟩
 refine Ze (w_box Y (cs := #[_, _, _, _, _, _, _, _, _, _]) rfl) ?_
 rintro _ _ ⟨bc, rfl, rfl⟩
 refine Ze (w_alloc zeroValue114 (cs := #[.int .i64 0, .int .i64 0, .int .i64 0, .int .i64 0, .int .i64 0, .int .i64 0, .int .i64 0, .int .i64 0, .int .i64 0, .bool false, .int .i64 0, .int .i64 0, .int .i64 0, .bool false, .int .i64 0, .int .i64 0, .int .i64 0, .pointer none, .pointer none, .int .i64 0, .int .i64 0]) (by kernel_rfl)) ?_
 rintro _ _ ⟨rb, rfl, rfl⟩
 refine Z0 <| Zx <| Zq <| Zg <| Zo Wh (p_load_agg (cs := #[_, _, _, _, _, _, _]) isAgg30 sizeOf30 Y Wb (by rfl)) ?_
 refine Zo Wh (p_load_agg (cs := #[_, _, _, _, _, _, _, _, _, _]) isAgg55 sizeOf55 Y Wb (by rfl)) ?_
 refine Zv (p_build (vs := [(0, .agg #[.int .i64 q.kd, .int .i64 q.tb, .int .i64 q.cl, .int .i64 q.lo, .int .i64 q.hi, .int .i64 q.bq, .int .i64 q.ot]), (1, .agg #[.int .i64 c.t, .int .i64 c.k, .bool c.had, .int .i64 c.o.a, .int .i64 c.o.b, .int .i64 c.o.c, .bool c.has, .int .i64 c.n.a, .int .i64 c.n.b, .int .i64 c.n.c])]) (cs := #[.int .i64 q.kd, .int .i64 q.tb, .int .i64 q.cl, .int .i64 q.lo, .int .i64 q.hi, .int .i64 q.bq, .int .i64 q.ot, .int .i64 c.t, .int .i64 c.k, .bool c.had, .int .i64 c.o.a, .int .i64 c.o.b, .int .i64 c.o.c, .bool c.has, .int .i64 c.n.a, .int .i64 c.n.b, .int .i64 c.n.c, .pointer none, .pointer none, .int .i64 0, .int .i64 0]) Y (run_build_struct (pl := #[(0, 7), (7, 10), (17, 1), (18, 1), (19, 1), (20, 1)]) zeroValue114 underlying114 (fun _ => by kernel_rfl) (by kernel_rfl))) ?_
 refine Ze (w_alloc zeroValue114 (cs := #[.int .i64 0, .int .i64 0, .int .i64 0, .int .i64 0, .int .i64 0, .int .i64 0, .int .i64 0, .int .i64 0, .int .i64 0, .bool false, .int .i64 0, .int .i64 0, .int .i64 0, .bool false, .int .i64 0, .int .i64 0, .int .i64 0, .pointer none, .pointer none, .int .i64 0, .int .i64 0]) (by kernel_rfl)) ?_
 rintro _ _ ⟨be, rfl, rfl⟩
 refine Xe (w_store_agg sizeOf114 Y Y (by simp [Value.oneCell', Value.cells]) Wu (by exact over_arr rfl) (by first | rfl | (simp; done)) Wb (by exact free_zero _)) ?_
 refine Z0 <| Zx <| Zq <| Zg <| Zv (p_makeFunc (vs := []) (us := [_]) Y Y) ?_
 refine Za Y <| Z0 <| Zx <| Zq <| Zg <| Zm Y <| Zo Wh (p_load_agg (cs := #[_, _, _, _, _, _, _, _, _, _]) isAgg55 sizeOf55 Y Wb (by rfl)) ?_
 refine Xr [_] Y call91 Y rfl (rw_before c) ?_
 refine Zd Y rfl <| Zd Y rfl <| Zc [_, _] Y call90 Y rfl (scanned_spec q hcl hbq bq (halfL c c.had c.o) c.had) ?_
 rintro _ _ ⟨_, ⟨p1, s1, rfl, hP1, rfl⟩, rfl⟩
 have e91 : optQ q c.had (halfL c c.had c.o) = bfQ q c := half_opt q c c.had c.o
 rw [e91] at hP1 ⊢
 refine Zm Y <| Zd Y rfl <| Zd Y rfl <| Zh 17 underlying114 rfl rfl sizeOf112 Y <| Xe (Zs sizeOf112 Y Y rfl (hi := by first | omega | decide | (simp; done))) ?_
 refine Zh 19 underlying114 rfl rfl sizeOf3 Y <| Xe (Zs sizeOf3 Y Y rfl (hi := by first | omega | decide | (simp; done))) ?_
 refine Z0 <| Zn [3, 4, 5, 6] ?_
 refine Zx <| Zq <| Zg <| Zm Y <| Zo Wh (p_load_agg (cs := #[_, _, _, _, _, _, _, _, _, _]) isAgg55 sizeOf55 Y Wb (by rfl)) ?_
 refine Xr [_] Y call49 Y rfl (rw_after c) ?_
 refine Zd Y rfl <| Zd Y rfl <| Zc [_, _] Y call90 Y rfl (scanned_spec q hcl hbq bq (halfL c c.has c.n) c.has) ?_
 rintro _ _ ⟨_, ⟨p2, s2, rfl, hP2, rfl⟩, rfl⟩
 have e92 : optQ q c.has (halfL c c.has c.n) = afQ q c := half_opt q c c.has c.n
 rw [e92] at hP2 ⊢
 refine Zm Y <| Zd Y rfl <| Zd Y rfl <| Zh 18 underlying114 rfl rfl sizeOf112 Y <| Xe (Zs sizeOf112 Y Y rfl (hi := by first | omega | decide | (simp; done))) ?_
 refine Zh 20 underlying114 rfl rfl sizeOf3 Y <| Xe (Zs sizeOf3 Y Y rfl (hi := by first | omega | decide | (simp; done))) ?_
 refine Z0 <| Zn [4, 5] ?_
 refine Zx <| Zq <| Zg <| Zo Wh (p_load_agg isAgg114 sizeOf114 Y Wb (by exact ext_whole rfl)) ?_
 refine Xe (w_store_agg sizeOf114 Y Y (by simp [Value.oneCell', Value.cells]) Wu (by exact over_arr rfl) (by first | rfl | (simp; done)) Wb (by exact free_zero _)) ?_
 refine Z0 <| Zx <| at_ret ?_
 refine nx_endc1 rfl results42 Y Wh (loadVar_agg isAgg114 sizeOf114 Wn (ext_whole rfl)) (by exact ⟨p1, p2, s1, s2, rfl, hP1, hP2, rfl⟩)

theorem cells_e (q : QM) (c : Chg) (p1 p2 : Option Addr) (o n : Int) : (Value.agg #[.int .i64 q.kd, .int .i64 q.tb, .int .i64 q.cl, .int .i64 q.lo, .int .i64 q.hi, .int .i64 q.bq, .int .i64 q.ot, .int .i64 c.t, .int .i64 c.k, .bool c.had, .int .i64 c.o.a, .int .i64 c.o.b, .int .i64 c.o.c, .bool c.has, .int .i64 c.n.a, .int .i64 c.n.b, .int .i64 c.n.c, .pointer p1, .pointer p2, .int .i64 o, .int .i64 n]).cells = #[.int .i64 q.kd, .int .i64 q.tb, .int .i64 q.cl, .int .i64 q.lo, .int .i64 q.hi, .int .i64 q.bq, .int .i64 q.ot, .int .i64 c.t, .int .i64 c.k, .bool c.had, .int .i64 c.o.a, .int .i64 c.o.b, .int .i64 c.o.c, .bool c.has, .int .i64 c.n.a, .int .i64 c.n.b, .int .i64 c.n.c, .pointer p1, .pointer p2, .int .i64 o, .int .i64 n] := by simp [Value.cells]

theorem any_spec (q : QM) (c : Chg) (p1 p2 : Option Addr) (o n : Int) : DoesR Tryz.prog 77 #[.agg #[.int .i64 q.kd, .int .i64 q.tb, .int .i64 q.cl, .int .i64 q.lo, .int .i64 q.hi, .int .i64 q.bq, .int .i64 q.ot, .int .i64 c.t, .int .i64 c.k, .bool c.had, .int .i64 c.o.a, .int .i64 c.o.b, .int .i64 c.o.c, .bool c.has, .int .i64 c.n.a, .int .i64 c.n.b, .int .i64 c.n.c, .pointer p1, .pointer p2, .int .i64 o, .int .i64 n]] [] (.bool (p1.isSome || p2.isSome)) := by
 refine spec_enter func77 rfl ntmps77 rfl ?_
 intro u R
 refine Zb [0] ?_
 refine Zq <| Zg <| Ze (w_box Y (cs := #[.int .i64 q.kd, .int .i64 q.tb, .int .i64 q.cl, .int .i64 q.lo, .int .i64 q.hi, .int .i64 q.bq, .int .i64 q.ot, .int .i64 c.t, .int .i64 c.k, .bool c.had, .int .i64 c.o.a, .int .i64 c.o.b, .int .i64 c.o.c, .bool c.has, .int .i64 c.n.a, .int .i64 c.n.b, .int .i64 c.n.c, .pointer p1, .pointer p2, .int .i64 o, .int .i64 n]) (cells_e q c p1 p2 o n)) ?_
 rintro _ _ ⟨be, rfl, rfl⟩
 refine Za Y <| Z0 <| Zx <| Zq <| Zg <| Zh 17 underlying114 rfl rfl sizeOf112 Y <| Zl isAgg112 Y ?_
 refine Zv (p_neq_ptrO underlying112 Y Y) <| Zm Y ?_
 refine ops_split_bool (t := 6) Y rfl (fun h1 => ?_) (fun h1 => ?_)
 ·
  refine op_skip Y rfl <| op_skip Y rfl <| op_skip Y rfl <| Zv (p_pick_t Y Y) <| Za Y <| Z0 <| Zx <| at_ret ?_
  refine nx_end1 rfl results77 Y (by exact ⟨by first | rfl | simp [h1], rfl⟩)
 refine Yf 18 underlying114 rfl rfl sizeOf112 Y <| Yl isAgg112 Y ?_
 refine Yg (p_neq_ptrO underlying112 Y Y) <| Zv (p_pick_f Y Y) <| Za Y <| Z0 <| Zx <| at_ret ?_
 refine nx_end1 rfl results77 Y (by exact ⟨by first | rfl | simp [h1], rfl⟩)

theorem one_spec (q : QM) (c : Chg) (p1 p2 : Option Addr) (o n : Int) : DoesR Tryz.prog 79 #[.agg #[.int .i64 q.kd, .int .i64 q.tb, .int .i64 q.cl, .int .i64 q.lo, .int .i64 q.hi, .int .i64 q.bq, .int .i64 q.ot, .int .i64 c.t, .int .i64 c.k, .bool c.had, .int .i64 c.o.a, .int .i64 c.o.b, .int .i64 c.o.c, .bool c.has, .int .i64 c.n.a, .int .i64 c.n.b, .int .i64 c.n.c, .pointer p1, .pointer p2, .int .i64 o, .int .i64 n]] [] (.bool (p1.isSome != p2.isSome)) := by
 refine spec_enter func79 rfl ntmps79 rfl ?_
 intro u R
 refine Zb [0] ?_
 refine Zq <| Zg <| Ze (w_box Y (cs := #[.int .i64 q.kd, .int .i64 q.tb, .int .i64 q.cl, .int .i64 q.lo, .int .i64 q.hi, .int .i64 q.bq, .int .i64 q.ot, .int .i64 c.t, .int .i64 c.k, .bool c.had, .int .i64 c.o.a, .int .i64 c.o.b, .int .i64 c.o.c, .bool c.has, .int .i64 c.n.a, .int .i64 c.n.b, .int .i64 c.n.c, .pointer p1, .pointer p2, .int .i64 o, .int .i64 n]) (cells_e q c p1 p2 o n)) ?_
 rintro _ _ ⟨be, rfl, rfl⟩
 refine Za Y <| Z0 <| Zx <| Zq <| Zg <| Zh 17 underlying114 rfl rfl sizeOf112 Y <| Zl isAgg112 Y ?_
 refine Zv (p_eql_ptrO underlying112 Y Y) <| Zh 18 underlying114 rfl rfl sizeOf112 Y <| Zl isAgg112 Y ?_
 refine Zv (p_eql_ptrO underlying112 Y Y) <| Zv (p_neq_bool underlying4 Y Y) <| Za Y <| Z0 <| Zx <| at_ret ?_
 refine nx_end1 rfl results79 Y (by exact ⟨by cases p1 <;> cases p2 <;> rfl, rfl⟩)

theorem k1_spec (q : QM) (c : Chg) (p1 p2 : Option Addr) (o n : Int) : DoesR Tryz.prog 81 #[.agg #[.int .i64 q.kd, .int .i64 q.tb, .int .i64 q.cl, .int .i64 q.lo, .int .i64 q.hi, .int .i64 q.bq, .int .i64 q.ot, .int .i64 c.t, .int .i64 c.k, .bool c.had, .int .i64 c.o.a, .int .i64 c.o.b, .int .i64 c.o.c, .bool c.has, .int .i64 c.n.a, .int .i64 c.n.b, .int .i64 c.n.c, .pointer p1, .pointer p2, .int .i64 o, .int .i64 n]] [] (.bool (decide (o ≠ n))) := by
 refine spec_enter func81 rfl ntmps81 rfl ?_
 intro u R
 refine Zb [0] ?_
 refine Zq <| Zg <| Ze (w_box Y (cs := #[.int .i64 q.kd, .int .i64 q.tb, .int .i64 q.cl, .int .i64 q.lo, .int .i64 q.hi, .int .i64 q.bq, .int .i64 q.ot, .int .i64 c.t, .int .i64 c.k, .bool c.had, .int .i64 c.o.a, .int .i64 c.o.b, .int .i64 c.o.c, .bool c.has, .int .i64 c.n.a, .int .i64 c.n.b, .int .i64 c.n.c, .pointer p1, .pointer p2, .int .i64 o, .int .i64 n]) (cells_e q c p1 p2 o n)) ?_
 rintro _ _ ⟨be, rfl, rfl⟩
 refine Za Y <| Z0 <| Zx <| Zq <| Zg <| Zh 19 underlying114 rfl rfl sizeOf3 Y <| Zl isAgg3 Y ?_
 refine Zh 20 underlying114 rfl rfl sizeOf3 Y <| Zl isAgg3 Y ?_
 refine Zv (p_neq Y Y) <| Za Y <| Z0 <| Zx <| at_ret ?_
 refine nx_end1 rfl results81 Y (by exact ⟨by first | rfl | simp, rfl⟩)

theorem k2_spec (q : QM) (c : Chg) (p1 p2 : Option Addr) (o n : Int) : DoesR Tryz.prog 83 #[.agg #[.int .i64 q.kd, .int .i64 q.tb, .int .i64 q.cl, .int .i64 q.lo, .int .i64 q.hi, .int .i64 q.bq, .int .i64 q.ot, .int .i64 c.t, .int .i64 c.k, .bool c.had, .int .i64 c.o.a, .int .i64 c.o.b, .int .i64 c.o.c, .bool c.has, .int .i64 c.n.a, .int .i64 c.n.b, .int .i64 c.n.c, .pointer p1, .pointer p2, .int .i64 o, .int .i64 n]] [] (.bool ((p1.isSome != p2.isSome) || decide (o ≠ n))) := by
 refine spec_enter func83 rfl ntmps83 rfl ?_
 intro u R
 refine Zb [0] ?_
 refine Zq <| Zg <| Ze (w_box Y (cs := #[.int .i64 q.kd, .int .i64 q.tb, .int .i64 q.cl, .int .i64 q.lo, .int .i64 q.hi, .int .i64 q.bq, .int .i64 q.ot, .int .i64 c.t, .int .i64 c.k, .bool c.had, .int .i64 c.o.a, .int .i64 c.o.b, .int .i64 c.o.c, .bool c.has, .int .i64 c.n.a, .int .i64 c.n.b, .int .i64 c.n.c, .pointer p1, .pointer p2, .int .i64 o, .int .i64 n]) (cells_e q c p1 p2 o n)) ?_
 rintro _ _ ⟨be, rfl, rfl⟩
 refine Za Y <| Z0 <| Zx <| Zq <| Zg <| Zo Wh (p_load_agg isAgg114 sizeOf114 Y Wb (by first | exact ext_whole rfl | rfl)) ?_
 refine Xr [_] Y call79 Y rfl (one_spec q c p1 p2 o n) ?_
 refine Zm Y ?_
 refine ops_split_bool (t := 5) Y rfl (fun h1 => ?_) (fun h1 => ?_)
 ·
  refine op_skip Y rfl <| op_skip Y rfl <| op_skip Y rfl <| op_skip Y rfl <| op_skip Y rfl <| Zv (p_pick_t Y Y) <| Za Y <| Z0 <| Zx <| at_ret ?_
  refine nx_end1 rfl results83 Y (by exact ⟨by first | rfl | simp [h1] | (rw [h1]; rfl), rfl⟩)
 refine Yf 19 underlying114 rfl rfl sizeOf3 Y <| Yl isAgg3 Y (hv := by first | exact ext_whole rfl | rfl) ?_
 refine Yf 20 underlying114 rfl rfl sizeOf3 Y <| Yl isAgg3 Y (hv := by first | exact ext_whole rfl | rfl) ?_
 refine Yg (p_neq Y Y) <| Zv (p_pick_f Y Y) <| Za Y <| Z0 <| Zx <| at_ret ?_
 refine nx_end1 rfl results83 Y (by exact ⟨by first | rfl | simp [h1] | (rw [h1]; rfl), rfl⟩)

theorem k4_spec (q : QM) (c : Chg) (p1 p2 : Option Addr) (o n : Int) : DoesR Tryz.prog 86 #[.agg #[.int .i64 q.kd, .int .i64 q.tb, .int .i64 q.cl, .int .i64 q.lo, .int .i64 q.hi, .int .i64 q.bq, .int .i64 q.ot, .int .i64 c.t, .int .i64 c.k, .bool c.had, .int .i64 c.o.a, .int .i64 c.o.b, .int .i64 c.o.c, .bool c.has, .int .i64 c.n.a, .int .i64 c.n.b, .int .i64 c.n.c, .pointer p1, .pointer p2, .int .i64 o, .int .i64 n]] [] (.bool ((p1.isSome != p2.isSome) || decide (o ≠ n))) := by
 refine spec_enter func86 rfl ntmps86 rfl ?_
 intro u R
 refine Zb [0] ?_
 refine Zq <| Zg <| Ze (w_box Y (cs := #[.int .i64 q.kd, .int .i64 q.tb, .int .i64 q.cl, .int .i64 q.lo, .int .i64 q.hi, .int .i64 q.bq, .int .i64 q.ot, .int .i64 c.t, .int .i64 c.k, .bool c.had, .int .i64 c.o.a, .int .i64 c.o.b, .int .i64 c.o.c, .bool c.has, .int .i64 c.n.a, .int .i64 c.n.b, .int .i64 c.n.c, .pointer p1, .pointer p2, .int .i64 o, .int .i64 n]) (cells_e q c p1 p2 o n)) ?_
 rintro _ _ ⟨be, rfl, rfl⟩
 refine Za Y <| Z0 <| Zx <| Zq <| Zg <| Zo Wh (p_load_agg isAgg114 sizeOf114 Y Wb (by first | exact ext_whole rfl | rfl)) ?_
 refine Xr [_] Y call79 Y rfl (one_spec q c p1 p2 o n) ?_
 refine Zm Y ?_
 refine ops_split_bool (t := 5) Y rfl (fun h1 => ?_) (fun h1 => ?_)
 ·
  refine op_skip Y rfl <| op_skip Y rfl <| op_skip Y rfl <| op_skip Y rfl <| op_skip Y rfl <| Zv (p_pick_t Y Y) <| Za Y <| Z0 <| Zx <| at_ret ?_
  refine nx_end1 rfl results86 Y (by exact ⟨by first | rfl | simp [h1] | (rw [h1]; rfl), rfl⟩)
 refine Yf 19 underlying114 rfl rfl sizeOf3 Y <| Yl isAgg3 Y (hv := by first | exact ext_whole rfl | rfl) ?_
 refine Yf 20 underlying114 rfl rfl sizeOf3 Y <| Yl isAgg3 Y (hv := by first | exact ext_whole rfl | rfl) ?_
 refine Yg (p_neq Y Y) <| Zv (p_pick_f Y Y) <| Za Y <| Z0 <| Zx <| at_ret ?_
 refine nx_end1 rfl results86 Y (by exact ⟨by first | rfl | simp [h1] | (rw [h1]; rfl), rfl⟩)

theorem k6_spec (q : QM) (c : Chg) (p1 p2 : Option Addr) (o n : Int) : DoesR Tryz.prog 88 #[.agg #[.int .i64 q.kd, .int .i64 q.tb, .int .i64 q.cl, .int .i64 q.lo, .int .i64 q.hi, .int .i64 q.bq, .int .i64 q.ot, .int .i64 c.t, .int .i64 c.k, .bool c.had, .int .i64 c.o.a, .int .i64 c.o.b, .int .i64 c.o.c, .bool c.has, .int .i64 c.n.a, .int .i64 c.n.b, .int .i64 c.n.c, .pointer p1, .pointer p2, .int .i64 o, .int .i64 n]] [] (.bool ((p1.isSome || p2.isSome) || decide (c.t = q.ot))) := by
 refine spec_enter func88 rfl ntmps88 rfl ?_
 intro u R
 refine Zb [0] ?_
 refine Zq <| Zg <| Ze (w_box Y (cs := #[.int .i64 q.kd, .int .i64 q.tb, .int .i64 q.cl, .int .i64 q.lo, .int .i64 q.hi, .int .i64 q.bq, .int .i64 q.ot, .int .i64 c.t, .int .i64 c.k, .bool c.had, .int .i64 c.o.a, .int .i64 c.o.b, .int .i64 c.o.c, .bool c.has, .int .i64 c.n.a, .int .i64 c.n.b, .int .i64 c.n.c, .pointer p1, .pointer p2, .int .i64 o, .int .i64 n]) (cells_e q c p1 p2 o n)) ?_
 rintro _ _ ⟨be, rfl, rfl⟩
 refine Za Y <| Z0 <| Zx <| Zq <| Zg <| Zo Wh (p_load_agg isAgg114 sizeOf114 Y Wb (by first | exact ext_whole rfl | rfl)) ?_
 refine Xr [_] Y call77 Y rfl (any_spec q c p1 p2 o n) ?_
 refine Zm Y ?_
 refine ops_split_bool (t := 5) Y rfl (fun h1 => ?_) (fun h1 => ?_)
 ·
  refine op_skip Y rfl <| op_skip Y rfl <| op_skip Y rfl <| op_skip Y rfl <| op_skip Y rfl <| op_skip Y rfl <| op_skip Y rfl <| Zv (p_pick_t Y Y) <| Za Y <| Z0 <| Zn [2] ?_
  refine Zx <| at_ret ?_
  refine nx_end1 rfl results88 Y (by exact ⟨by first | rfl | simp [h1] | (rw [h1]; rfl), rfl⟩)
 refine Yf 7 underlying114 rfl rfl sizeOf55 Y <| Yg (p_fieldAddr1 (off := 0) underlying55 rfl rfl sizeOf3 Y) <| Yl isAgg3 Y (hv := by first | exact ext_whole rfl | rfl) ?_
 refine Yf 0 underlying114 rfl rfl sizeOf30 Y <| Yg (p_fieldAddr1 (off := 6) underlying30 rfl rfl sizeOf3 Y) <| Yl isAgg3 Y (hv := by first | exact ext_whole rfl | rfl) ?_
 refine Yg (p_eql Y Y) <| Zv (p_pick_f Y Y) <| Za Y <| Z0 <| Zn [2] ?_
 refine Zx <| at_ret ?_
 refine nx_end1 rfl results88 Y (by exact ⟨by first | rfl | simp [h1] | (rw [h1]; rfl), rfl⟩)

end Go.Proofs.YtkgmgmkbgnkdnaaGreatDoor

namespace Go.Proofs.YtkgmgmkbgnkdnaaGreatDoor
open Go.Proofs.Tryz
open Go Go.RowKit Gw
set_option linter.unusedVariables false
set_option linter.unusedSimpArgs false
set_option maxRecDepth 100000
attribute [local irreducible] Gw.At Gw.Nx Gw.Ops
def kindsL (b5 b6 : Nat) : List (Int × Value) := [(1, .agg #[.func (.func 77) #[] #[], .func (.func 78) #[] #[]]), (2, .agg #[.func (.func 77) #[] #[], .func (.func 78) #[] #[]]), (3, .agg #[.func (.func 79) #[] #[], .func (.func 80) #[] #[]]), (4, .agg #[.func (.func 81) #[] #[], .func (.func 82) #[] #[]]), (5, .agg #[.func (.func 83) #[] #[], .func (.func 117) #[] #[.pointer (some ⟨b5, 0, none⟩)]]), (6, .agg #[.func (.func 86) #[] #[], .func (.func 117) #[] #[.pointer (some ⟨b6, 0, none⟩)]]), (7, .agg #[.func (.func 88) #[] #[], .func (.func 89) #[] #[]])]
theorem kinds_no {lm : List (Int × Value)} {b5 b6 : Nat} (h : ∀ p, p ∈ lm ↔ p ∈ kindsL b5 b6) (hn : (lm.map (·.1)).Nodup) {k : Int} {v : Value} (hk : (k, v) ∈ kindsL b5 b6) : mget k lm = some v := mget_mem hn ((h _).2 hk)
def kindF (k : Int) : Nat := if k = 1 then 77 else if k = 2 then 77 else if k = 3 then 79 else if k = 4 then 81 else if k = 5 then 83 else if k = 6 then 86 else 88
theorem kinds_at {lm : List (Int × Value)} {b5 b6 : Nat} (h : ∀ p, p ∈ lm ↔ p ∈ kindsL b5 b6) (hn : (lm.map (·.1)).Nodup) {k : Int} (hk : 1 ≤ k ∧ k ≤ 7) : ∃ pf, mget k lm = some (.agg #[.func (.func (kindF k)) #[] #[], pf]) := by
  obtain h9 | h9 | h9 | h9 | h9 | h9 | h9 : k = 1 ∨ k = 2 ∨ k = 3 ∨ k = 4 ∨ k = 5 ∨ k = 6 ∨ k = 7 := by omega
  all_goals subst h9
  all_goals exact ⟨_, kinds_no h hn (by simp [kindsL, kindF]; rfl)⟩

theorem extreme_spec (v : Value) (h1 : v.oneCell' = true) (hc : v.cells = #[v]) : Does Tryz.prog 84 #[v] [] (fun r H' => ∃ b, r = .func (.func 117) #[] #[.pointer (some ⟨b, 0, none⟩)] ∧ H' = [[(b, .cells #[v] 128 (0, 0))]]) := by
 refine spec_enter func84 rfl ntmps84 rfl ?_
 intro u R
 refine Zb [0] ?_
 refine Zq <| Zg <| Ze (w_box Y (cs := #[v]) hc) ?_
 rintro _ _ ⟨b, rfl, rfl⟩
 refine Za Y <| Z0 <| Zx <| Zq <| Zg <| Zv (p_makeFunc (vs := []) (us := [_]) Y Y) ?_
 refine Za Y <| Z0 <| Zx <| at_ret ?_
 refine nx_end1 rfl results84 Y (by exact ⟨b, rfl, rfl⟩)

theorem kinds_spec : Does Tryz.prog 41 #[] [] (fun v H' => ∃ b es ck lm b5 b6, v = .map (some b) ∧ MapM (fun k : Int => .int .i64 k) es ck lm ∧ (∀ p, p ∈ lm ↔ p ∈ kindsL b5 b6) ∧ H' = [[(b, .map es ck)], [(b5, .cells #[.func (.func 85) #[] #[]] 128 (0, 0))], [(b6, .cells #[.func (.func 87) #[] #[]] 128 (0, 0))]]) := by
 refine spec_enter func41 rfl ntmps41 rfl ?_
 intro u R
 refine Zb [] ?_
 refine Zq <| Zg <| Za Y <| Z0 <| Zx <| Zq <| Zg <| Ze (w_makeMap) ?_
 rintro _ _ ⟨mb, rfl, rfl⟩
 refine Zv (p_build (vs := [(0, .func (.func 77) #[] #[]), (1, .func (.func 78) #[] #[])]) (cs := #[.func (.func 77) #[] #[], .func (.func 78) #[] #[]]) Y (run_build_struct (pl := #[(0, 1), (1, 1)]) zeroValue109 underlying109 (fun _ => by kernel_rfl) (by kernel_rfl))) ?_
 refine Ze (w_insert intKey underlying110 (mapM_new _) (fun _ _ => trivial) (trivial) Y Y Y Wo) ?_
 rintro _ _ ⟨rfl, es1, ck1, lm1, hm1, hp1, rfl⟩
 refine Zv (p_build (vs := [(0, .func (.func 77) #[] #[]), (1, .func (.func 78) #[] #[])]) (cs := #[.func (.func 77) #[] #[], .func (.func 78) #[] #[]]) Y (run_build_struct (pl := #[(0, 1), (1, 1)]) zeroValue109 underlying109 (fun _ => by kernel_rfl) (by kernel_rfl))) ?_
 refine Ze (w_insert intKey underlying110 hm1 (fun _ _ => trivial) (trivial) Y Y Y Wo) ?_
 rintro _ _ ⟨rfl, es2, ck2, lm2, hm2, hp2, rfl⟩
 refine Zv (p_build (vs := [(0, .func (.func 79) #[] #[]), (1, .func (.func 80) #[] #[])]) (cs := #[.func (.func 79) #[] #[], .func (.func 80) #[] #[]]) Y (run_build_struct (pl := #[(0, 1), (1, 1)]) zeroValue109 underlying109 (fun _ => by kernel_rfl) (by kernel_rfl))) ?_
 refine Ze (w_insert intKey underlying110 hm2 (fun _ _ => trivial) (trivial) Y Y Y Wo) ?_
 rintro _ _ ⟨rfl, es3, ck3, lm3, hm3, hp3, rfl⟩
 refine Zv (p_build (vs := [(0, .func (.func 81) #[] #[]), (1, .func (.func 82) #[] #[])]) (cs := #[.func (.func 81) #[] #[], .func (.func 82) #[] #[]]) Y (run_build_struct (pl := #[(0, 1), (1, 1)]) zeroValue109 underlying109 (fun _ => by kernel_rfl) (by kernel_rfl))) ?_
 refine Ze (w_insert intKey underlying110 hm3 (fun _ _ => trivial) (trivial) Y Y Y Wo) ?_
 rintro _ _ ⟨rfl, es4, ck4, lm4, hm4, hp4, rfl⟩
 refine Zc [_] Y call84 Y rfl (extreme_spec (.func (.func 85) #[] #[]) rfl rfl) ?_
 rintro _ _ ⟨_, ⟨b5, rfl, rfl⟩, rfl⟩
 refine Zv (p_build (vs := [(0, .func (.func 83) #[] #[]), (1, .func (.func 117) #[] #[.pointer (some ⟨b5, 0, none⟩)])]) (cs := #[.func (.func 83) #[] #[], .func (.func 117) #[] #[.pointer (some ⟨b5, 0, none⟩)]]) Y (run_build_struct (pl := #[(0, 1), (1, 1)]) zeroValue109 underlying109 (fun _ => by kernel_rfl) (by kernel_rfl))) ?_
 refine Ze (w_insert intKey underlying110 hm4 (fun _ _ => trivial) (trivial) Y Y Y Wo) ?_
 rintro _ _ ⟨rfl, es5, ck5, lm5, hm5, hp5, rfl⟩
 refine Zc [_] Y call84 Y rfl (extreme_spec (.func (.func 87) #[] #[]) rfl rfl) ?_
 rintro _ _ ⟨_, ⟨b6, rfl, rfl⟩, rfl⟩
 refine Zv (p_build (vs := [(0, .func (.func 86) #[] #[]), (1, .func (.func 117) #[] #[.pointer (some ⟨b6, 0, none⟩)])]) (cs := #[.func (.func 86) #[] #[], .func (.func 117) #[] #[.pointer (some ⟨b6, 0, none⟩)]]) Y (run_build_struct (pl := #[(0, 1), (1, 1)]) zeroValue109 underlying109 (fun _ => by kernel_rfl) (by kernel_rfl))) ?_
 refine Ze (w_insert intKey underlying110 hm5 (fun _ _ => trivial) (trivial) Y Y Y Wo) ?_
 rintro _ _ ⟨rfl, es6, ck6, lm6, hm6, hp6, rfl⟩
 refine Zv (p_build (vs := [(0, .func (.func 88) #[] #[]), (1, .func (.func 89) #[] #[])]) (cs := #[.func (.func 88) #[] #[], .func (.func 89) #[] #[]]) Y (run_build_struct (pl := #[(0, 1), (1, 1)]) zeroValue109 underlying109 (fun _ => by kernel_rfl) (by kernel_rfl))) ?_
 refine Ze (w_insert intKey underlying110 hm6 (fun _ _ => trivial) (trivial) Y Y Y Wo) ?_
 rintro _ _ ⟨rfl, es7, ck7, lm7, hm7, hp7, rfl⟩
 refine Zm Y <| Za Y <| Z0 <| Zn [0] ?_
 refine Zx <| at_ret ?_
 refine nx_end1 rfl results41 Y (by
       refine ⟨mb, es7, ck7, lm7, b5, b6, rfl, hm7, fun p => ?_, rfl⟩
       rw [hp7, hp6, hp5, hp4, hp3, hp2, hp1]
       simp only [kindsL, List.mem_cons, List.not_mem_nil, or_false, false_and]
       constructor
       · rintro (rfl | ⟨rfl | ⟨rfl | ⟨rfl | ⟨rfl | ⟨rfl | ⟨rfl, -⟩, -⟩, -⟩, -⟩, -⟩, -⟩) <;> simp
       · rintro (h | h | h | h | h | h | h) <;> subst h <;> simp)

theorem kind_touch (q : QM) (c : Chg) (hq : ValidQ q) {p1 p2 : Option Addr} {s1 s2 : List Chunk} (h1 : PtrRow p1 (bfQ q c) s1) (h2 : PtrRow p2 (afQ q c) s2) : DoesR Tryz.prog (kindF q.kd) #[.agg #[.int .i64 q.kd, .int .i64 q.tb, .int .i64 q.cl, .int .i64 q.lo, .int .i64 q.hi, .int .i64 q.bq, .int .i64 q.ot, .int .i64 c.t, .int .i64 c.k, .bool c.had, .int .i64 c.o.a, .int .i64 c.o.b, .int .i64 c.o.c, .bool c.has, .int .i64 c.n.a, .int .i64 c.n.b, .int .i64 c.n.c, .pointer p1, .pointer p2, .int .i64 (mQ q (bfQ q c)), .int .i64 (mQ q (afQ q c))]] [] (.bool (touchQ q c)) := by
  have e1 := h1.some_
  have e2 := h2.some_
  have hk : q.kd = 1 ∨ q.kd = 2 ∨ q.kd = 3 ∨ q.kd = 4 ∨ q.kd = 5 ∨ q.kd = 6 ∨ q.kd = 7 := by have := hq.2.2.2; omega
  have ha := any_spec q c p1 p2 (mQ q (bfQ q c)) (mQ q (afQ q c))
  have ho := one_spec q c p1 p2 (mQ q (bfQ q c)) (mQ q (afQ q c))
  have h4 := k1_spec q c p1 p2 (mQ q (bfQ q c)) (mQ q (afQ q c))
  have h5 := k2_spec q c p1 p2 (mQ q (bfQ q c)) (mQ q (afQ q c))
  have h6 := k4_spec q c p1 p2 (mQ q (bfQ q c)) (mQ q (afQ q c))
  have h7 := k6_spec q c p1 p2 (mQ q (bfQ q c)) (mQ q (afQ q c))
  rw [e1, e2] at ha ho h5 h6 h7
  rcases hk with h | h | h | h | h | h | h
  · rw [show kindF q.kd = 77 by rw [h]; rfl, show touchQ q c = anyQ q c by unfold touchQ; rw [if_pos (by omega)]]; exact ha
  · rw [show kindF q.kd = 77 by rw [h]; rfl, show touchQ q c = anyQ q c by unfold touchQ; rw [if_pos (by omega)]]; exact ha
  · rw [show kindF q.kd = 79 by rw [h]; rfl, show touchQ q c = oneQ q c by unfold touchQ; rw [if_neg (by omega), if_pos (by omega)]]; exact ho
  · rw [show kindF q.kd = 81 by rw [h]; rfl, show touchQ q c = decide (mQ q (bfQ q c) ≠ mQ q (afQ q c)) by unfold touchQ; rw [if_neg (by omega), if_neg (by omega), if_pos (by omega)]]; exact h4
  · rw [show kindF q.kd = 83 by rw [h]; rfl, show touchQ q c = (oneQ q c || decide (mQ q (bfQ q c) ≠ mQ q (afQ q c))) by unfold touchQ; rw [if_neg (by omega), if_neg (by omega), if_neg (by omega), if_pos (by omega)]]; exact h5
  · rw [show kindF q.kd = 86 by rw [h]; rfl, show touchQ q c = (oneQ q c || decide (mQ q (bfQ q c) ≠ mQ q (afQ q c))) by unfold touchQ; rw [if_neg (by omega), if_neg (by omega), if_neg (by omega), if_pos (by omega)]]; exact h6
  · rw [show kindF q.kd = 88 by rw [h]; rfl, show touchQ q c = (anyQ q c || decide (c.t = q.ot)) by unfold touchQ; rw [if_neg (by omega), if_neg (by omega), if_neg (by omega), if_neg (by omega)]]; exact h7
theorem kind_call {k : Int} (hk : 1 ≤ k ∧ k ≤ 7) : ∀ (args : Array Value) (w : World), (callFunc (kindF k) args).run Tryz.prog w = .ok (.enter (kindF k) args) w := by
  obtain h | h | h | h | h | h | h : k = 1 ∨ k = 2 ∨ k = 3 ∨ k = 4 ∨ k = 5 ∨ k = 6 ∨ k = 7 := by omega
  all_goals (subst h; simp only [kindF]; first | exact call77 | exact call79 | exact call81 | exact call83 | exact call86 | exact call88)
theorem ValidQ.kind {q : QM} (h : ValidQ q) : 1 ≤ q.kd ∧ q.kd ≤ 7 := by have := h.2.2.2; omega

theorem touches_spec (q : QM) (c : Chg) : DoesR Tryz.prog 13 #[.agg #[.int .i64 q.kd, .int .i64 q.tb, .int .i64 q.cl, .int .i64 q.lo, .int .i64 q.hi, .int .i64 q.bq, .int .i64 q.ot], .agg #[.int .i64 c.t, .int .i64 c.k, .bool c.had, .int .i64 c.o.a, .int .i64 c.o.b, .int .i64 c.o.c, .bool c.has, .int .i64 c.n.a, .int .i64 c.n.b, .int .i64 c.n.c]] [] (.bool (decide (ValidQ q) && (decide c.ok && touchQ q c))) := by
 refine spec_enter func13 rfl ntmps13 rfl ?_
 intro u R
 refine Zb [0, 1] ?_
 refine Zq <| Zg <| Ze (w_box Y (cs := #[_, _, _, _, _, _, _]) rfl) ?_
 rintro _ _ ⟨pq, rfl, rfl⟩
 refine Ze (w_box Y (cs := #[_, _, _, _, _, _, _, _, _, _]) rfl) ?_
 rintro _ _ ⟨pc, rfl, rfl⟩
 refine Za Y <| Z0 <| Zx <| Zq <| at_draw (n := 18) (0 :: 1 :: 3 :: 7 :: 15 :: 31 :: 63 :: 127 :: 127 :: 383 :: 1023 :: 2047 :: 127 :: 127 :: 12543 :: 32767 :: 65535 :: 131071 :: []) 49298 (by kernel_rfl) (by kernel_rfl) rfl ?_
 refine lin_r (D' := 1) 0 rfl rfl rfl Wh (p_load_agg (cs := #[_, _, _, _, _, _, _]) isAgg30 sizeOf30 Y Wb (by rfl)) ?_
 refine Yz 1 1 3 [0] [false] [] rfl Y rfl rfl rfl rfl (Zu [_] Y call24 Y rfl (q_valid q)) ?_
 rintro _ _ ⟨rfl, rfl⟩
 refine ⟨keep_nil, ?_⟩
 refine Zi 7 2 rfl (p_move Y) ?_
 refine lin_split_bool (t := 7) Y (fun h1 => ?_) (fun h1 => ?_)
 ·
  first | rw [decide_eq_true h1] | rw [h1] | skip
  refine lin_rg (D' := 15) 3 Y rfl rfl rfl Wh (p_load_agg (cs := #[_, _, _, _, _, _, _, _, _, _]) isAgg55 sizeOf55 Y Wb (by rfl)) ?_
  refine Yz 4 15 31 [3] [false] [] rfl Y rfl rfl rfl rfl (Zu [_] Y call40 Y rfl (rw_validc c)) ?_
  rintro _ _ ⟨rfl, rfl⟩
  refine ⟨keep_nil, ?_⟩
  refine Zi 63 5 rfl (p_pick_t Y Y) <| Zi 127 6 rfl (p_move Y) ?_
  refine lin_split_bool (t := 11) Y (fun h2 => ?_) (fun h2 => ?_)
  ·
   first | rw [decide_eq_true h2] | rw [h2] | skip
   refine lin_wg (D' := 383) 8 Y rfl rfl rfl (p_fieldAddr0 (off := 0) underlying30 rfl rfl sizeOf3 Y) ?_
   refine lin_rg (D' := 895) 9 Y rfl rfl rfl Wh (p_load isAgg3 Y (by rfl)) ?_
   refine lin_rg (D' := 4991) 12 Y rfl rfl rfl Wh (p_load_agg (cs := #[_, _, _, _, _, _, _]) isAgg30 sizeOf30 Y Wb (by rfl)) ?_
   refine lin_rg (D' := 13183) 13 Y rfl rfl rfl Wh (p_load_agg (cs := #[_, _, _, _, _, _, _, _, _, _]) isAgg55 sizeOf55 Y Wb (by rfl)) ?_
   refine Zz (l := [7]) ?_
   refine Zy 127 13311 [13, 12, 9] [true, true, true] [(13, (_, _)), (12, (_, _)), (9, (_, _))] rfl Y rfl rfl rfl rfl (Zw [] Y call41 Y rfl (kinds_spec)) ?hk_3 no_pan ?hl_3
   case hk_3 =>
    rintro _ _ ⟨_, ⟨mb, es, ck, lm, b5, b6, rfl, hm, hp, rfl⟩, rfl⟩
    refine ⟨Zk (Zk (Zk (keep_nil))), ?_⟩
    have hq : ValidQ q := of_decide_eq_true h1
    obtain ⟨pf, hget⟩ := kinds_at hp hm.keys hq.kind
    refine lin_rg (D' := 14335) 10 Y rfl rfl rfl Wh (p_lookup1 intKey underlying110 zeroValue109 hm (fun _ _ => trivial) (trivial) ((by rw [hget]; exact rfl : _ = Value.agg #[.func (.func (kindF q.kd)) #[] #[], pf])) Y Y) ?_
    refine lin_wg (D' := 16383) 11 Y rfl rfl rfl (p_field underlying109 rfl isAgg106 Y rfl) ?_
    refine Zz (l := [14]) ?_
    refine Zy 12543 32767 [10, 13, 12, 9] [true, false, false, true] [(10, (_, _)), (9, (_, _))] rfl Y rfl rfl rfl rfl (Zw [_, _] Y call42 Y rfl (effect_spec q hq.2.1 (by have := hq.2.2.2; omega) c)) ?hk_4 no_pan ?hl_4
    case hk_4 =>
     rintro _ _ ⟨_, ⟨p1, p2, s1, s2, rfl, hP1, hP2, rfl⟩, rfl⟩
     refine ⟨Zk (Zk (keep_nil)), ?_⟩
     refine Yz 15 32767 65535 [10, 9] [false, false] [] rfl Y rfl rfl rfl rfl (Zu [_] Y (kind_call hq.kind) Y rfl (kind_touch q c hq hP1 hP2)) ?_
     rintro _ _ ⟨rfl, rfl⟩
     refine ⟨keep_nil, ?_⟩
     refine Zi 131071 16 rfl (p_pick_t Y Y) <| Zi 262143 17 rfl (p_assign Y) <| lin_nil ?_
     refine Zn [4] ?_
     refine Zx <| at_ret ?_
     refine nx_end1 rfl results13 Y (by exact ⟨by first | simp [h1, h2] | simp [h1], rfl⟩)
    exact each_nil
   exact each_nil
  first | rw [decide_eq_false h2] | rw [h2] | skip
  refine Yk 255 7 rfl <| Yk 511 8 rfl <| Yk 1023 9 rfl <| Yk 2047 10 rfl <| Yk 4095 11 rfl <| Yk 8191 12 rfl <| Yk 16383 13 rfl <| Yk 32767 14 rfl <| Yk 65535 15 rfl <| Zi 131071 16 rfl (p_pick_f Y Y) <| Zi 262143 17 rfl (p_assign Y) <| lin_nil ?_
  refine Zn [4] ?_
  refine Zx <| at_ret ?_
  refine nx_end1 rfl results13 Y (by exact ⟨by first | simp [h1, h2] | simp [h1], rfl⟩)
 first | rw [decide_eq_false h1] | rw [h1] | skip
 refine Yk 15 3 rfl <| Yk 31 4 rfl <| Zi 63 5 rfl (p_pick_f Y Y) <| Zi 127 6 rfl (p_move Y) <| Yk 255 7 rfl <| Yk 511 8 rfl <| Yk 1023 9 rfl <| Yk 2047 10 rfl <| Yk 4095 11 rfl <| Yk 8191 12 rfl <| Yk 16383 13 rfl <| Yk 32767 14 rfl <| Yk 65535 15 rfl <| Zi 131071 16 rfl (p_pick_f Y Y) <| Zi 262143 17 rfl (p_assign Y) <| lin_nil ?_
 refine Zn [4] ?_
 refine Zx <| at_ret ?_
 refine nx_end1 rfl results13 Y (by exact ⟨by first | simp [h1, h2] | simp [h1], rfl⟩)

end Go.Proofs.YtkgmgmkbgnkdnaaGreatDoor

namespace Go.Proofs.YtkgmgmkbgnkdnaaGreatDoor
open Go.Proofs.Tryz
open Go Go.RowKit Gw
set_option linter.unusedVariables false
set_option linter.unusedSimpArgs false
set_option maxRecDepth 100000
attribute [local irreducible] Gw.At Gw.Nx Gw.Ops
def ivQ (n : Int) : Value := .int .i64 n
theorem rowS_make (e : TypeId) (g c : Nat) (z : Value) (h : c ≤ maxLen) : RowS 1 e (.slice (some ⟨g, 0, none⟩) 0 c) 0 [] [(g, .cells (List.replicate c z).toArray e (0, 0))] := ⟨rfl, .inr ⟨g, c, _, (0, 0), rfl, rfl, Nat.zero_le _, h, by simp, by simp, free_zero _⟩⟩
theorem meas_snoc {q : QM} {rows : List RowM} {i : Nat} {r : RowM} (h : rows[i]? = some r) : measT q (rows.take (i + 1)) = measT q (rows.take i) ++ [valL r q.bq] := by
  unfold measT; rw [take_snoc h, List.map_append]; rfl
theorem meas_len (q : QM) (rows : List RowM) : (measT q rows).length = rows.length := by unfold measT; rw [List.length_map]
theorem meas_at {q : QM} {rows : List RowM} {i : Nat} {r : RowM} (h : rows[i]? = some r) : (measT q rows)[i]? = some (valL r q.bq) := by unfold measT; rw [List.getElem?_map, h]; rfl

theorem foldR_spec {M : List Chunk} {v : Value} {rows : List RowM} (hv : RowsU M v rows) {v0 : Int} {f0 : Bool} (st : Nat → Int × Bool) (h0 : st 0 = (v0, f0)) (fid : Nat) (us : List Value) (hcf : ∀ (args : Array Value) (w : World), (callFunc fid args).run Tryz.prog w = .ok (.enter fid args) w) (hf : ∀ (i : Nat) (r : RowM), rows[i]? = some r → DoesR Tryz.prog fid (.agg #[.slice none 0 0, .int .i64 (st i).1, .bool (st i).2] :: .agg #[.int .i64 r.t, .int .i64 r.k, .int .i64 r.v.a, .int .i64 r.v.b, .int .i64 r.v.c] :: us).toArray [M] (.agg #[.slice none 0 0, .int .i64 (st (i + 1)).1, .bool (st (i + 1)).2])) : DoesR Tryz.prog 66 #[v, .agg #[.slice none 0 0, .int .i64 v0, .bool f0], .func (.func fid) #[] us.toArray] [M] (.agg #[.slice none 0 0, .int .i64 (st rows.length).1, .bool (st rows.length).2]) := by
 have hml : maxLen = 9223372036854775807 := rfl
 obtain ⟨p, cap, rfl, ⟨hl, hlc⟩, hg⟩ := id hv
 refine spec_enter func66 rfl ntmps66 rfl ?_
 intro u R
 refine Zb [0, 1, 2] ?_
 refine Zq <| Zg <| Ze (w_box Y (cs := #[_, _, _]) rfl) ?_
 rintro _ _ ⟨bo, rfl, rfl⟩
 refine Ze (w_alloc zeroValue40 (cs := #[_, _, _]) rfl) ?_
 rintro _ _ ⟨re, rfl, rfl⟩
 refine Z0 <| Zx <| Zq <| Zq <| Zg <| Zm Y <| Zv (p_len_slice underlying38 Y) <| Zm Y <| Z0 <| Zx <| at_block <| Zb [11, 2, 4, 6, 9, 10] ?_
 refine at_loopB (e0 := [(11, _)]) (H0 := _) (n := _) (fun m e H => ∃ (i : Nat), m = rows.length - i ∧ (i ≤ rows.length) ∧ e = [(11, .int .i64 (i : Int))] ∧ H = [[(bo, .cells #[.slice none 0 0, .int .i64 (st i).1, .bool (st i).2] 40 (0, 0))]]) (by exact ⟨0, rfl, Nat.zero_le _, rfl, by rw [h0]⟩) Wp ?_
 rintro _ _ _ ⟨i, rfl, hi, rfl, rfl⟩
 refine Zq <| Zg <| Zv (p_lss_nat Y Y) <| Z0 <| Zx <| Zq ?_
 refine at_if Y (fun hlt => ?_) (fun hlt => ?_)
 ·
  obtain ⟨r, hr⟩ : ∃ r, rows[i]? = some r := ⟨_, List.getElem?_eq_getElem hlt⟩
  obtain ⟨g, off, cur, T, zz, rfl, hm9, hsz9, hex9⟩ := hg i r hr
  refine at_skip <| Zx <| Zq <| at_block <| Zq <| Zg ?_
  (refine op_v (p_indexAddr_nat underlying38 sizeOf67 Y Y ?_) ?_; (focus (first | omega | decide | (simp; done))))
  refine op_rm (cs := [(g, .cells cur T zz)]) (by simp [hm9]) (p_load_agg (cs := #[.int .i64 r.t, .int .i64 r.k, .int .i64 r.v.a, .int .i64 r.v.b, .int .i64 r.v.c]) isAgg67 sizeOf67 Y (by omega) hex9) rfl rfl ?_
  refine Ze (w_alloc zeroValue67 (cs := #[_, _, _, _, _]) rfl) ?_
  rintro _ _ ⟨rb, rfl, rfl⟩
  refine Xe (w_store_agg sizeOf67 Y Y (by (simp [Value.oneCell']; done)) Wu (by exact (rfl : _ = (#[.int .i64 r.t, .int .i64 r.k, .int .i64 r.v.a, .int .i64 r.v.b, .int .i64 r.v.c] : Array Value))) (by first | rfl | (simp; done)) Wb (by exact free_zero _)) ?_
  refine Z0 <| Zx <| Zg <| Zm Y <| Zo Wh (p_load_agg (cs := #[_, _, _]) isAgg40 sizeOf40 Y Wb (by rfl)) ?_
  refine Zo Wh (p_load_agg (cs := #[_, _, _, _, _]) isAgg67 sizeOf67 Y Wb (by rfl)) ?_
  refine Xr [_, _] Y (hcf) Y rfl (hf i r hr) ?_
  refine Xe (w_store_agg sizeOf40 Y Y (by (simp [Value.oneCell']; done)) Wu (by exact (rfl : _ = (#[.slice none 0 0, .int .i64 (st (i + 1)).1, .bool (st (i + 1)).2] : Array Value))) (by first | rfl | (simp; done)) Wb (by exact free_zero _)) ?_
  refine Z0 <| nx_block_normal <| Zx <| Zg <| Ya (n := 1) Y Y <| Zm Y <| Z0 <| Zn [11, 2, 4, 6, 9, 10] ?_
  refine nx_againB (e' := [(11, _)]) (m := _) (H' := _) (by exact ⟨i + 1, rfl, by omega, rfl, rfl⟩)
 have ei : i = rows.length := by omega
 subst ei
 refine at_exit <| Zt <| Zt <| nx_block_exit <| Zx <| Zq <| Zg <| Zo Wh (p_load_agg (cs := #[_, _, _]) isAgg40 sizeOf40 Y Wb (by rfl)) ?_
 refine Xe (w_store_agg sizeOf40 Y Y (by (simp [Value.oneCell']; done)) Wu (by rfl) (by first | rfl | (simp; done)) Wb (by exact free_zero _)) ?_
 refine Z0 <| Zx <| at_ret ?_
 refine nx_endc1 rfl results66 Y Wh (loadVar_agg isAgg40 sizeOf40 Wn (rfl)) (by exact ⟨rfl, rfl⟩)

theorem foldI_spec {M : List Chunk} {p : Option Addr} {cap : Nat} {ms : List Int} (hc : CellsM M p (ms.map ivQ)) (hl : ms.length ≤ maxLen) (hlc : ms.length ≤ cap) {v0 : Int} {f0 : Bool} (st : Nat → Int × Bool) (h0 : st 0 = (v0, f0)) (fid : Nat) (us : List Value) (hcf : ∀ (args : Array Value) (w : World), (callFunc fid args).run Tryz.prog w = .ok (.enter fid args) w) (hf : ∀ (i : Nat) (x : Int), ms[i]? = some x → DoesR Tryz.prog fid (.agg #[.slice none 0 0, .int .i64 (st i).1, .bool (st i).2] :: .int .i64 x :: us).toArray [M] (.agg #[.slice none 0 0, .int .i64 (st (i + 1)).1, .bool (st (i + 1)).2])) : DoesR Tryz.prog 68 #[.slice p ms.length cap, .agg #[.slice none 0 0, .int .i64 v0, .bool f0], .func (.func fid) #[] us.toArray] [M] (.agg #[.slice none 0 0, .int .i64 (st ms.length).1, .bool (st ms.length).2]) := by
 have hml : maxLen = 9223372036854775807 := rfl
 refine spec_enter func68 rfl ntmps68 rfl ?_
 intro u R
 refine Zb [0, 1, 2] ?_
 refine Zq <| Zg <| Ze (w_box Y (cs := #[_, _, _]) rfl) ?_
 rintro _ _ ⟨bo, rfl, rfl⟩
 refine Ze (w_alloc zeroValue40 (cs := #[_, _, _]) rfl) ?_
 rintro _ _ ⟨re, rfl, rfl⟩
 refine Z0 <| Zx <| Zq <| Zq <| Zg <| Zm Y <| Zv (p_len_slice underlying28 Y) <| Zm Y <| Z0 <| Zx <| at_block <| Zb [11, 2, 4, 6, 9, 10] ?_
 refine at_loopB (e0 := [(11, _)]) (H0 := _) (n := _) (fun m e H => ∃ (i : Nat), m = ms.length - i ∧ (i ≤ ms.length) ∧ e = [(11, .int .i64 (i : Int))] ∧ H = [[(bo, .cells #[.slice none 0 0, .int .i64 (st i).1, .bool (st i).2] 40 (0, 0))]]) (by exact ⟨0, rfl, Nat.zero_le _, rfl, by rw [h0]⟩) Wp ?_
 rintro _ _ _ ⟨i, rfl, hi, rfl, rfl⟩
 refine Zq <| Zg <| Zv (p_lss_nat Y Y) <| Z0 <| Zx <| Zq ?_
 refine at_if Y (fun hlt => ?_) (fun hlt => ?_)
 ·
  obtain ⟨x, hx⟩ : ∃ x, ms[i]? = some x := ⟨_, List.getElem?_eq_getElem hlt⟩
  obtain ⟨g, off, cur, T, zz, rfl, hm9, hex9⟩ := hc i (ivQ x) (by rw [List.getElem?_map, hx]; rfl)
  have hex8 : cur[off + i]? = some (.int .i64 x) := hex9
  refine at_skip <| Zx <| Zq <| at_block <| Zq <| Zg ?_
  (refine op_v (p_indexAddr_nat1 underlying28 sizeOf3 Y Y ?_) ?_; (focus (first | omega | decide | (simp; done))))
  refine op_rm (cs := [(g, .cells cur T zz)]) (by simp [hm9]) (p_load isAgg3 Y (by exact hex8)) rfl rfl ?_
  refine Za Y <| Z0 <| Zx <| Zg <| Zm Y <| Zo Wh (p_load_agg (cs := #[_, _, _]) isAgg40 sizeOf40 Y Wb (by rfl)) ?_
  refine Zm Y <| Xr [_, _] Y (hcf) Y rfl (hf i x hx) ?_
  refine Xe (w_store_agg sizeOf40 Y Y (by (simp [Value.oneCell']; done)) Wu (by exact (rfl : _ = (#[.slice none 0 0, .int .i64 (st (i + 1)).1, .bool (st (i + 1)).2] : Array Value))) (by first | rfl | (simp; done)) Wb (by exact free_zero _)) ?_
  refine Z0 <| nx_block_normal <| Zx <| Zg <| Ya (n := 1) Y Y <| Zm Y <| Z0 <| Zn [11, 2, 4, 6, 9, 10] ?_
  refine nx_againB (e' := [(11, _)]) (m := _) (H' := _) (by exact ⟨i + 1, rfl, by omega, rfl, rfl⟩)
 have ei : i = ms.length := by omega
 subst ei
 refine at_exit <| Zt <| Zt <| nx_block_exit <| Zx <| Zq <| Zg <| Zo Wh (p_load_agg (cs := #[_, _, _]) isAgg40 sizeOf40 Y Wb (by rfl)) ?_
 refine Xe (w_store_agg sizeOf40 Y Y (by (simp [Value.oneCell']; done)) Wu (by rfl) (by first | rfl | (simp; done)) Wb (by exact free_zero _)) ?_
 refine Z0 <| Zx <| at_ret ?_
 refine nx_endc1 rfl results68 Y Wh (loadVar_agg isAgg40 sizeOf40 Wn (rfl)) (by exact ⟨rfl, rfl⟩)

theorem meas_spec {M : List Chunk} {v : Value} {rows : List RowM} (hv : RowsU M v rows) (q : QM) (hbq : 0 ≤ q.bq ∧ q.bq ≤ 3) (hb : rows.length ≤ 1000000000000) : Does Tryz.prog 69 #[.agg #[.int .i64 q.kd, .int .i64 q.tb, .int .i64 q.cl, .int .i64 q.lo, .int .i64 q.hi, .int .i64 q.bq, .int .i64 q.ot], v] [M] (fun r H' => ∃ s, RowS 1 3 r (measT q rows).length ((measT q rows).map ivQ) s ∧ H' = [s, M]) := by
 have hml : maxLen = 9223372036854775807 := rfl
 obtain ⟨p, cap, rfl, ⟨hl, hlc⟩, hg⟩ := id hv
 refine spec_enter func69 rfl ntmps69 rfl ?_
 intro u R
 refine Zb [0, 1] ?_
 refine Zq <| Zg <| Ze (w_box Y (cs := #[_, _, _, _, _, _, _]) rfl) ?_
 rintro _ _ ⟨bq, rfl, rfl⟩
 refine Za Y <| Z0 <| Zx <| Zq <| Zg <| Zm Y <| Zv (p_len_slice underlying38 Y) ?_
 refine Ze (w_makeSlice (by_ := 8) (l := 0) underlying28 (rfl : Tryz.prog.info? 3 = some Tryz.t3) rfl rfl rfl rfl Y Y ?_ ?_ ?_) ?_
 (focus (omega))
 (focus (omega))
 (focus (omega))
 rintro _ _ ⟨mk, rfl, rfl⟩
 refine Za Y <| Z0 <| Zx <| Zq <| Zq <| Zg <| Zm Y <| Zv (p_len_slice underlying38 Y) <| Zm Y <| Z0 <| Zx <| at_block <| Zb [5, 13, 2, 11, 12] ?_
 refine at_loopB (e0 := [(5, _), (13, _)]) (H0 := _) (n := _) (fun m e H => ∃ (i : Nat) (vo : Value) (so : List Chunk), m = rows.length - i ∧ (i ≤ rows.length ∧ RowS 1 3 vo i ((measT q (rows.take i)).map ivQ) so) ∧ e = [(5, vo), (13, .int .i64 (i : Int))] ∧ H = [so]) (by exact ⟨0, _, _, rfl, ⟨Nat.zero_le _, by rw [List.take_zero]; exact rowS_make _ _ _ (.int .i64 0) (by omega)⟩, rfl, rfl⟩) Wp ?_
 rintro _ _ _ ⟨i, vo, so, rfl, ⟨hi, hro⟩, rfl, rfl⟩
 obtain ⟨qo, co, rfl⟩ := hro.form
 refine Zq <| Zg <| Zv (p_lss_nat Y Y) <| Z0 <| Zx <| Zq ?_
 refine at_if Y (fun hlt => ?_) (fun hlt => ?_)
 ·
  obtain ⟨r, hr⟩ : ∃ r, rows[i]? = some r := ⟨_, List.getElem?_eq_getElem hlt⟩
  obtain ⟨g, off, cur, T, zz, rfl, hm9, hsz9, hex9⟩ := hg i r hr
  refine at_skip <| Zx <| Zq <| at_block <| Zq <| Zg ?_
  (refine op_v (p_indexAddr_nat underlying38 sizeOf67 Y Y ?_) ?_; (focus (first | omega | decide | (simp; done))))
  refine op_rm (cs := [(g, .cells cur T zz)]) (by simp [hm9]) (p_load_agg (cs := #[.int .i64 r.t, .int .i64 r.k, .int .i64 r.v.a, .int .i64 r.v.b, .int .i64 r.v.c]) isAgg67 sizeOf67 Y (by omega) hex9) rfl rfl ?_
  refine Ze (w_alloc zeroValue67 (cs := #[_, _, _, _, _]) rfl) ?_
  rintro _ _ ⟨rb, rfl, rfl⟩
  refine Xe (w_store_agg sizeOf67 Y Y (by (simp [Value.oneCell']; done)) Wu (by exact (rfl : _ = (#[.int .i64 r.t, .int .i64 r.k, .int .i64 r.v.a, .int .i64 r.v.b, .int .i64 r.v.c] : Array Value))) (by first | rfl | (simp; done)) Wb (by exact free_zero _)) ?_
  refine Z0 <| Zx <| Zg <| Zm Y <| Zo Wh (p_load_agg (cs := #[_, _, _, _, _]) isAgg67 sizeOf67 Y Wb (by rfl)) ?_
  refine Zh 5 underlying30 rfl rfl sizeOf3 Y <| Zl isAgg3 Y ?_
  refine Xr [_, _] Y call56 Y rfl (rw_valueI r q.bq hbq) ?_
  refine Ze (w_buildSlice (vs := [_]) (cs := [_]) underlying28 sizeOf3 zeroValue3 Y rfl rfl rfl rfl rfl) ?_
  rintro _ _ ⟨gb, rfl, rfl⟩
  refine Ze (w_append_subS (by_ := 8) (sz := 1) underlying28 (rfl : Tryz.prog.info? 3 = some Tryz.t3) rfl rfl rfl rfl Y (hro) Y (subS_new 1 gb 1 1 3 (0, 0) [.int .i64 (valL r q.bq)] rfl) Wo Wo (by simp [Value.oneCell']) (by omega) (by omega)) ?_
  rintro _ _ ⟨sa9, hra9, rfl⟩
  obtain ⟨ga9, ca9, rfl⟩ := hra9.form
  refine Za Y <| Z0 <| Zn [2, 5, 11, 12, 13] ?_
  refine nx_block_normal <| Zx <| Zg <| Ya (n := 1) Y Y <| Zm Y <| Z0 <| Zn [5, 13, 2, 11, 12] ?_
  refine nx_againB (e' := [(5, _), (13, _)]) (m := _) (H' := _) (by exact ⟨i + 1, _, _, rfl, ⟨by omega, rowS_eq hra9 rfl (by rw [meas_snoc hr, List.map_append]; rfl)⟩, rfl, rfl⟩)
 have ei : i = rows.length := by omega
 subst ei
 refine at_exit <| Zt <| Zt <| nx_block_exit <| Zx <| Zq <| Zg <| Zm Y <| Za Y <| Z0 <| Zx <| at_ret ?_
 refine nx_end1 rfl results69 Y (by exact ⟨so, rowS_eq hro (meas_len q rows).symm (by rw [List.take_length]), rfl⟩)

end Go.Proofs.YtkgmgmkbgnkdnaaGreatDoor
