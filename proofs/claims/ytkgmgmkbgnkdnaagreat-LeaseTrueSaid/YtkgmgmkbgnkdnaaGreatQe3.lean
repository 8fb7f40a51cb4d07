/- predicate.effectOf, kinds, Touches. -/
import Derived.Test.YtkgmgmkbgnkdnaaGreatEz
import Derived.Test.YtkgmgmkbgnkdnaaGreatQe2
namespace Go.Proofs.YtkgmgmkbgnkdnaaGreat
open Go.Proofs.Tryz
open Go Go.RowKit Gw
set_option linter.unusedVariables false
set_option linter.unusedSimpArgs false
set_option maxRecDepth 100000
attribute [local irreducible] Gw.At Gw.Nx Gw.Ops
def PtrRow (p : Option Addr) (o : Option RowM) (s : List Chunk) : Prop := match o with
  | none => p = none ∧ s = []
  | some r => ∃ b, p = some ⟨b, 0, none⟩ ∧ s = [(b, .cells #[.int .i64 r.t, .int .i64 r.k, .int .i64 r.v.a, .int .i64 r.v.b, .int .i64 r.v.c] 62 (0, 0))]
theorem PtrRow.some_ {p : Option Addr} {o : Option RowM} {s : List Chunk} (h : PtrRow p o s) : p.isSome = o.isSome := by
  cases o with
  | none => rw [h.1]; rfl
  | some r => obtain ⟨b, rfl, _⟩ := h; rfl
theorem half_opt (q : QM) (c : Chg) (th : Bool) (v : V3) : optQ q th (halfL c th v) = optQ q th ⟨c.t, c.k, v⟩ := by
  cases th with
  | false => rfl
  | true => rfl
theorem opt_no {q : QM} {b : Bool} {r : RowM} (h : b = false ∨ ¬ (r.t = q.tb ∧ q.lo ≤ valL r q.cl ∧ valL r q.cl ≤ q.hi)) : optQ q b r = none := by
  unfold optQ inQ
  rcases h with h | h
  · rw [h]; rfl
  · rw [decide_eq_false h, Bool.and_false]; rfl
theorem opt_yes {q : QM} {b : Bool} {r : RowM} (h : b = true) (h2 : r.t = q.tb ∧ q.lo ≤ valL r q.cl ∧ valL r q.cl ≤ q.hi) : optQ q b r = some r := by
  unfold optQ inQ
  rw [h, decide_eq_true h2]; rfl
theorem intKey : KeyOk Tryz.prog 3 (fun k : Int => .int .i64 k) (fun _ => True) := intKeyOk underlying3

theorem scanned_spec (q : QM) (hcl : 0 ≤ q.cl ∧ q.cl ≤ 3) (hbq : 0 ≤ q.bq ∧ q.bq ≤ 3) (bq : Nat) (r : RowM) (b : Bool) : Does Tryz.prog 54 #[.agg #[.int .i64 r.t, .int .i64 r.k, .int .i64 r.v.a, .int .i64 r.v.b, .int .i64 r.v.c], .bool b, .pointer (some ⟨bq, 0, none⟩)] [[(bq, .cells #[.int .i64 q.kd, .int .i64 q.tb, .int .i64 q.cl, .int .i64 q.lo, .int .i64 q.hi, .int .i64 q.bq, .int .i64 q.ot] 29 (0, 0))]] (fun v H' => ∃ p s, v = .tuple #[.pointer p, .int .i64 (mQ q (optQ q b r))] ∧ PtrRow p (optQ q b r) s ∧ H' = [s, [(bq, .cells #[.int .i64 q.kd, .int .i64 q.tb, .int .i64 q.cl, .int .i64 q.lo, .int .i64 q.hi, .int .i64 q.bq, .int .i64 q.ot] 29 (0, 0))]]) := by
 refine spec_enter func54 rfl ntmps54 rfl ?_
 intro u R
 refine Zb [0, 1, 2] ?_
 refine Zq <| Zg <| Ze (w_box Y (cs := #[_, _, _, _, _]) rfl) ?_
 rintro _ _ ⟨bx, rfl, rfl⟩
 refine Za Y <| Za Y <| Z0 <| Zx <| Zq <| Zg <| Zo (by repeat (first | exact Has.here _ | apply Has.there)) (p_load_agg (cs := #[_, _, _, _, _]) isAgg62 sizeOf62 Y (by first | omega | decide | (simp; done)) (by rfl)) ?_
 refine Zh 2 underlying29 rfl rfl sizeOf3 Y <| Zl isAgg3 Y ?_
 refine Zr [_, _] Y call55 Y rfl (rw_valueI r q.cl hcl) ?_
 rintro _ _ ⟨rfl, rfl⟩
 refine Za Y <| Z0 <| Zx <| Zq <| Zq <| Zg <| Zm Y ?_
 first | refine op_v (p_not_dec Y) ?_ | refine op_v (p_not Y) ?_
 refine Zm Y ?_
 refine ops_split_bool (t := 14) Y rfl (fun h1 => ?_) (fun h1 => ?_)
 ·
  refine op_skip Y rfl <| op_skip Y rfl <| op_skip Y rfl <| op_skip Y rfl <| op_skip Y rfl <| Zv (p_pick_t Y Y) <| Zm Y <| op_skip Y rfl <| op_skip Y rfl <| op_skip Y rfl <| op_skip Y rfl <| Zv (p_pick_t Y Y) <| Zm Y <| op_skip Y rfl <| op_skip Y rfl <| op_skip Y rfl <| op_skip Y rfl <| Zv (p_pick_t Y Y) <| Z0 <| Zn [2, 3, 32] ?_
  refine Zx <| at_then Y <| Zq <| at_nil ?_
  refine Zg <| Za Y <| Za Y <| Z0 <| Zx <| at_ret <| Zt ?_
  refine nx_end2 rfl results54 Y Y (by
        have e9 : optQ q b r = none := opt_no (by first | exact .inl (by simpa using h1) | exact .inr (by omega))
        exact ⟨none, [], by rw [e9]; rfl, by rw [e9]; exact ⟨rfl, rfl⟩, rfl⟩)
 ·
  refine Yf 0 underlying62 rfl rfl sizeOf3 Y <| Yl isAgg3 Y ?_
  refine Yf 1 underlying29 rfl rfl sizeOf3 Y <| Yl isAgg3 Y ?_
  first | refine op_wg Y (p_neq_nat Y Y) rfl rfl ?_ | refine op_wg Y (p_neq Y Y) rfl rfl ?_
  refine Zv (p_pick_f Y Y) <| Zm Y ?_
  first | refine ops_split (t := 21) Y rfl (fun h2 => ?_) (fun h2 => ?_) | refine ops_split_bool (t := 21) Y rfl (fun h2 => ?_) (fun h2 => ?_)
  ·
   refine op_skip Y rfl <| op_skip Y rfl <| op_skip Y rfl <| op_skip Y rfl <| Zv (p_pick_t Y Y) <| Zm Y <| op_skip Y rfl <| op_skip Y rfl <| op_skip Y rfl <| op_skip Y rfl <| Zv (p_pick_t Y Y) <| Z0 <| Zn [2, 3, 32] ?_
   refine Zx <| at_then Y <| Zq <| at_nil ?_
   refine Zg <| Za Y <| Za Y <| Z0 <| Zx <| at_ret <| Zt ?_
   refine nx_end2 rfl results54 Y Y (by
         have e9 : optQ q b r = none := opt_no (by first | exact .inl (by simpa using h1) | exact .inr (by omega))
         exact ⟨none, [], by rw [e9]; rfl, by rw [e9]; exact ⟨rfl, rfl⟩, rfl⟩)
  ·
   refine Zf Y Y <| Yf 3 underlying29 rfl rfl sizeOf3 Y <| Yl isAgg3 Y ?_
   first | refine op_wg Y (p_lss_nat Y Y) rfl rfl ?_ | refine op_wg Y (p_lss Y Y) rfl rfl ?_
   refine Zv (p_pick_f Y Y) <| Zm Y ?_
   first | refine ops_split (t := 27) Y rfl (fun h3 => ?_) (fun h3 => ?_) | refine ops_split_bool (t := 27) Y rfl (fun h3 => ?_) (fun h3 => ?_)
   ·
    refine op_skip Y rfl <| op_skip Y rfl <| op_skip Y rfl <| op_skip Y rfl <| Zv (p_pick_t Y Y) <| Z0 <| Zn [2, 3, 32] ?_
    refine Zx <| at_then Y <| Zq <| at_nil ?_
    refine Zg <| Za Y <| Za Y <| Z0 <| Zx <| at_ret <| Zt ?_
    refine nx_end2 rfl results54 Y Y (by
          have e9 : optQ q b r = none := opt_no (by first | exact .inl (by simpa using h1) | exact .inr (by omega))
          exact ⟨none, [], by rw [e9]; rfl, by rw [e9]; exact ⟨rfl, rfl⟩, rfl⟩)
   ·
    refine Zf Y Y <| Yf 4 underlying29 rfl rfl sizeOf3 Y <| Yl isAgg3 Y ?_
    first | refine op_wg Y (p_gtr_nat Y Y) rfl rfl ?_ | refine op_wg Y (p_gtr Y Y) rfl rfl ?_
    refine Zv (p_pick_f Y Y) <| Z0 <| Zn [2, 3, 32] ?_
    refine Zx ?_
    first | refine at_if Y (fun h4 => ?_) (fun h4 => ?_) | refine at_if_bool Y (fun h4 => ?_) (fun h4 => ?_)
    ·
     refine Zq <| at_nil ?_
     refine Zg <| Za Y <| Za Y <| Z0 <| Zx <| at_ret <| Zt ?_
     refine nx_end2 rfl results54 Y Y (by
           have e9 : optQ q b r = none := opt_no (by first | exact .inl (by simpa using h1) | exact .inr (by omega))
           exact ⟨none, [], by rw [e9]; rfl, by rw [e9]; exact ⟨rfl, rfl⟩, rfl⟩)
    ·
     refine at_skip <| Zx <| Zq <| Zg <| Zo (by repeat (first | exact Has.here _ | apply Has.there)) (p_load_agg (cs := #[_, _, _, _, _]) isAgg62 sizeOf62 Y (by first | omega | decide | (simp; done)) (by rfl)) ?_
     refine Zh 5 underlying29 rfl rfl sizeOf3 Y <| Zl isAgg3 Y ?_
     refine Zr [_, _] Y call55 Y rfl (rw_valueI r q.bq hbq) ?_
     rintro _ _ ⟨rfl, rfl⟩
     refine Za Y <| Za Y <| Z0 <| Zx <| at_ret ?_
     refine nx_end2 rfl results54 Y Y (by
           have e9 : optQ q b r = some r := opt_yes (by simpa using h1) (by omega)
           exact ⟨_, _, by rw [e9]; rfl, by rw [e9]; exact ⟨bx, rfl, rfl⟩, rfl⟩)

theorem rw_before (c : Chg) : DoesR Tryz.prog 56 #[.agg #[.int .i64 c.t, .int .i64 c.k, .bool c.had, .int .i64 c.o.a, .int .i64 c.o.b, .int .i64 c.o.c, .bool c.has, .int .i64 c.n.a, .int .i64 c.n.b, .int .i64 c.n.c]] [] (.tuple #[.agg #[.int .i64 (halfL c c.had c.o).t, .int .i64 (halfL c c.had c.o).k, .int .i64 (halfL c c.had c.o).v.a, .int .i64 (halfL c c.had c.o).v.b, .int .i64 (halfL c c.had c.o).v.c], .bool c.had]) := by
 refine spec_enter func56 rfl ntmps56 rfl ?_
 intro u R
 refine Zb [0] ?_
 refine Zq <| Zg <| Ze (w_box Y (cs := #[_, _, _, _, _, _, _, _, _, _]) rfl) ?_
 rintro _ _ ⟨b1, rfl, rfl⟩
 refine Ze (w_alloc zeroValue62 (cs := #[_, _, _, _, _]) rfl) ?_
 rintro _ _ ⟨b2, rfl, rfl⟩
 refine Za Y <| Z0 <| Zx <| Zq <| Zg <| Zo (by repeat (first | exact Has.here _ | apply Has.there)) (p_load_agg (cs := #[_, _, _, _, _, _, _, _, _, _]) isAgg40 sizeOf40 Y (by first | omega | decide | (simp; done)) (by rfl)) ?_
 refine Zh 2 underlying40 rfl rfl sizeOf4 Y <| Zl isAgg4 Y ?_
 refine Zh 3 underlying40 rfl rfl sizeOf38 Y <| Zo (by repeat (first | exact Has.here _ | apply Has.there)) (p_load_agg (cs := #[_, _, _]) isAgg38 sizeOf38 Y (by first | omega | decide | (simp; done)) (by rfl)) ?_
 refine Zr [_, _, _] Y call76 Y rfl (rw_half c c.had c.o) ?_
 rintro _ _ ⟨rfl, rfl⟩
 refine Zd Y rfl <| Zd Y rfl <| Ze (w_store_agg sizeOf62 Y Y (by first | (simp [Value.oneCell']; done) | (simp [Value.oneCell', Value.cells]; done)) (by repeat (first | exact Upd.here _ | apply Upd.there)) (by rfl) (by first | rfl | (simp; done)) (by first | omega | decide | (simp; done)) (by exact free_zero _)) ?_
 rintro _ _ ⟨rfl, rfl⟩
 refine Za Y <| Z0 <| Zn [2, 3] ?_
 refine Zx <| at_ret ?_
 refine nx_endct rfl results56 Y (by repeat (first | exact Has.here _ | apply Has.there)) (loadVar_agg isAgg62 sizeOf62 (by first | decide | exact Nat.le_refl _ | (simp; done) | (simp; omega)) (rfl)) Y (by exact ⟨rfl, rfl⟩)

set_option maxHeartbeats 1000000 in
theorem effect_spec (q : QM) (hcl : 0 ≤ q.cl ∧ q.cl ≤ 3) (hbq : 0 ≤ q.bq ∧ q.bq ≤ 3) (c : Chg) : Does Tryz.prog 27 #[.agg #[.int .i64 q.kd, .int .i64 q.tb, .int .i64 q.cl, .int .i64 q.lo, .int .i64 q.hi, .int .i64 q.bq, .int .i64 q.ot], .agg #[.int .i64 c.t, .int .i64 c.k, .bool c.had, .int .i64 c.o.a, .int .i64 c.o.b, .int .i64 c.o.c, .bool c.has, .int .i64 c.n.a, .int .i64 c.n.b, .int .i64 c.n.c]] [] (fun v H' => ∃ p1 p2 s1 s2, v = .agg #[.int .i64 q.kd, .int .i64 q.tb, .int .i64 q.cl, .int .i64 q.lo, .int .i64 q.hi, .int .i64 q.bq, .int .i64 q.ot, .int .i64 c.t, .int .i64 c.k, .bool c.had, .int .i64 c.o.a, .int .i64 c.o.b, .int .i64 c.o.c, .bool c.has, .int .i64 c.n.a, .int .i64 c.n.b, .int .i64 c.n.c, .pointer p1, .pointer p2, .int .i64 (mQ q (bfQ q c)), .int .i64 (mQ q (afQ q c))] ∧ PtrRow p1 (bfQ q c) s1 ∧ PtrRow p2 (afQ q c) s2 ∧ H' = [s1, s2]) := by
 refine spec_enter func27 rfl ntmps27 rfl ?_
 intro u R
 refine Zb [0, 1] ?_
 refine Zq <| Zg <| Ze (w_box Y (cs := #[_, _, _, _, _, _, _]) rfl) ?_
 rintro _ _ ⟨bq, rfl, rfl⟩
 refine Ze (w_box Y (cs := #[_, _, _, _, _, _, _, _, _, _]) rfl) ?_
 rintro _ _ ⟨bc, rfl, rfl⟩
 refine Ze (w_alloc zeroValue86 (cs := #[.int .i64 0, .int .i64 0, .int .i64 0, .int .i64 0, .int .i64 0, .int .i64 0, .int .i64 0, .int .i64 0, .int .i64 0, .bool false, .int .i64 0, .int .i64 0, .int .i64 0, .bool false, .int .i64 0, .int .i64 0, .int .i64 0, .pointer none, .pointer none, .int .i64 0, .int .i64 0]) (by kernel_rfl)) ?_
 rintro _ _ ⟨rb, rfl, rfl⟩
 refine Z0 <| Zx <| Zq <| Zg <| Zo (by repeat (first | exact Has.here _ | apply Has.there)) (p_load_agg (cs := #[_, _, _, _, _, _, _]) isAgg29 sizeOf29 Y (by first | omega | decide | (simp; done)) (by rfl)) ?_
 refine Zo (by repeat (first | exact Has.here _ | apply Has.there)) (p_load_agg (cs := #[_, _, _, _, _, _, _, _, _, _]) isAgg40 sizeOf40 Y (by first | omega | decide | (simp; done)) (by rfl)) ?_
 refine Zv (p_build (vs := [(0, .agg #[.int .i64 q.kd, .int .i64 q.tb, .int .i64 q.cl, .int .i64 q.lo, .int .i64 q.hi, .int .i64 q.bq, .int .i64 q.ot]), (1, .agg #[.int .i64 c.t, .int .i64 c.k, .bool c.had, .int .i64 c.o.a, .int .i64 c.o.b, .int .i64 c.o.c, .bool c.has, .int .i64 c.n.a, .int .i64 c.n.b, .int .i64 c.n.c])]) (cs := #[.int .i64 q.kd, .int .i64 q.tb, .int .i64 q.cl, .int .i64 q.lo, .int .i64 q.hi, .int .i64 q.bq, .int .i64 q.ot, .int .i64 c.t, .int .i64 c.k, .bool c.had, .int .i64 c.o.a, .int .i64 c.o.b, .int .i64 c.o.c, .bool c.has, .int .i64 c.n.a, .int .i64 c.n.b, .int .i64 c.n.c, .pointer none, .pointer none, .int .i64 0, .int .i64 0]) Y (run_build_struct (pl := #[(0, 7), (7, 10), (17, 1), (18, 1), (19, 1), (20, 1)]) zeroValue86 underlying86 (fun _ => by kernel_rfl) (by kernel_rfl))) ?_
 refine Ze (w_alloc zeroValue86 (cs := #[.int .i64 0, .int .i64 0, .int .i64 0, .int .i64 0, .int .i64 0, .int .i64 0, .int .i64 0, .int .i64 0, .int .i64 0, .bool false, .int .i64 0, .int .i64 0, .int .i64 0, .bool false, .int .i64 0, .int .i64 0, .int .i64 0, .pointer none, .pointer none, .int .i64 0, .int .i64 0]) (by kernel_rfl)) ?_
 rintro _ _ ⟨be, rfl, rfl⟩
 refine Ze (w_store_agg sizeOf86 Y Y (by simp [Value.oneCell', Value.cells]) (by repeat (first | exact Upd.here _ | apply Upd.there)) (by exact over_arr rfl) (by first | rfl | (simp; done)) (by first | omega | decide | (simp; done)) (by exact free_zero _)) ?_
 rintro _ _ ⟨rfl, rfl⟩
 refine Z0 <| Zx <| Zq <| Zg <| Zv (p_makeFunc (vs := []) (us := [_]) Y Y) ?_
 refine Za Y <| Z0 <| Zx <| Zq <| Zg <| Zm Y <| Zo (by repeat (first | exact Has.here _ | apply Has.there)) (p_load_agg (cs := #[_, _, _, _, _, _, _, _, _, _]) isAgg40 sizeOf40 Y (by first | omega | decide | (simp; done)) (by rfl)) ?_
 refine Zr [_] Y call56 Y rfl (rw_before c) ?_
 rintro _ _ ⟨rfl, rfl⟩
 refine Zd Y rfl <| Zd Y rfl <| Zc [_, _] Y call54 Y rfl (scanned_spec q hcl hbq bq (halfL c c.had c.o) c.had) ?_
 rintro _ _ ⟨_, ⟨p1, s1, rfl, hP1, rfl⟩, rfl⟩
 have e91 : optQ q c.had (halfL c c.had c.o) = bfQ q c := half_opt q c c.had c.o
 rw [e91] at hP1 ⊢
 refine Zm Y <| Zd Y rfl <| Zd Y rfl <| Zh 17 underlying86 rfl rfl sizeOf84 Y <| Ze (Zs sizeOf84 Y Y rfl (hi := by first | omega | decide | (simp; done))) ?_
 rintro _ _ ⟨rfl, rfl⟩
 refine Zh 19 underlying86 rfl rfl sizeOf3 Y <| Ze (Zs sizeOf3 Y Y rfl (hi := by first | omega | decide | (simp; done))) ?_
 rintro _ _ ⟨rfl, rfl⟩
 refine Z0 <| Zn [3, 4, 5, 6] ?_
 refine Zx <| Zq <| Zg <| Zm Y <| Zo (by repeat (first | exact Has.here _ | apply Has.there)) (p_load_agg (cs := #[_, _, _, _, _, _, _, _, _, _]) isAgg40 sizeOf40 Y (by first | omega | decide | (simp; done)) (by rfl)) ?_
 refine Zr [_] Y call57 Y rfl (rw_after c) ?_
 rintro _ _ ⟨rfl, rfl⟩
 refine Zd Y rfl <| Zd Y rfl <| Zc [_, _] Y call54 Y rfl (scanned_spec q hcl hbq bq (halfL c c.has c.n) c.has) ?_
 rintro _ _ ⟨_, ⟨p2, s2, rfl, hP2, rfl⟩, rfl⟩
 have e92 : optQ q c.has (halfL c c.has c.n) = afQ q c := half_opt q c c.has c.n
 rw [e92] at hP2 ⊢
 refine Zm Y <| Zd Y rfl <| Zd Y rfl <| Zh 18 underlying86 rfl rfl sizeOf84 Y <| Ze (Zs sizeOf84 Y Y rfl (hi := by first | omega | decide | (simp; done))) ?_
 rintro _ _ ⟨rfl, rfl⟩
 refine Zh 20 underlying86 rfl rfl sizeOf3 Y <| Ze (Zs sizeOf3 Y Y rfl (hi := by first | omega | decide | (simp; done))) ?_
 rintro _ _ ⟨rfl, rfl⟩
 refine Z0 <| Zn [4, 5] ?_
 refine Zx <| Zq <| Zg <| Zo (by repeat (first | exact Has.here _ | apply Has.there)) (p_load_agg isAgg86 sizeOf86 Y (by first | omega | decide | (simp; done)) (by exact ext_whole rfl)) ?_
 refine Ze (w_store_agg sizeOf86 Y Y (by simp [Value.oneCell', Value.cells]) (by repeat (first | exact Upd.here _ | apply Upd.there)) (by exact over_arr rfl) (by first | rfl | (simp; done)) (by first | omega | decide | (simp; done)) (by exact free_zero _)) ?_
 rintro _ _ ⟨rfl, rfl⟩
 refine Z0 <| Zx <| at_ret ?_
 refine nx_endc1 rfl results27 Y (by repeat (first | exact Has.here _ | apply Has.there)) (loadVar_agg isAgg86 sizeOf86 (by first | decide | exact Nat.le_refl _ | (simp; done) | (simp; omega)) (ext_whole rfl)) (by exact ⟨p1, p2, s1, s2, rfl, hP1, hP2, rfl⟩)

theorem cells_e (q : QM) (c : Chg) (p1 p2 : Option Addr) (o n : Int) : (Value.agg #[.int .i64 q.kd, .int .i64 q.tb, .int .i64 q.cl, .int .i64 q.lo, .int .i64 q.hi, .int .i64 q.bq, .int .i64 q.ot, .int .i64 c.t, .int .i64 c.k, .bool c.had, .int .i64 c.o.a, .int .i64 c.o.b, .int .i64 c.o.c, .bool c.has, .int .i64 c.n.a, .int .i64 c.n.b, .int .i64 c.n.c, .pointer p1, .pointer p2, .int .i64 o, .int .i64 n]).cells = #[.int .i64 q.kd, .int .i64 q.tb, .int .i64 q.cl, .int .i64 q.lo, .int .i64 q.hi, .int .i64 q.bq, .int .i64 q.ot, .int .i64 c.t, .int .i64 c.k, .bool c.had, .int .i64 c.o.a, .int .i64 c.o.b, .int .i64 c.o.c, .bool c.has, .int .i64 c.n.a, .int .i64 c.n.b, .int .i64 c.n.c, .pointer p1, .pointer p2, .int .i64 o, .int .i64 n] := by simp [Value.cells]

theorem any_spec (q : QM) (c : Chg) (p1 p2 : Option Addr) (o n : Int) : DoesR Tryz.prog 41 #[.agg #[.int .i64 q.kd, .int .i64 q.tb, .int .i64 q.cl, .int .i64 q.lo, .int .i64 q.hi, .int .i64 q.bq, .int .i64 q.ot, .int .i64 c.t, .int .i64 c.k, .bool c.had, .int .i64 c.o.a, .int .i64 c.o.b, .int .i64 c.o.c, .bool c.has, .int .i64 c.n.a, .int .i64 c.n.b, .int .i64 c.n.c, .pointer p1, .pointer p2, .int .i64 o, .int .i64 n]] [] (.bool (p1.isSome || p2.isSome)) := by
 refine spec_enter func41 rfl ntmps41 rfl ?_
 intro u R
 refine Zb [0] ?_
 refine Zq <| Zg <| Ze (w_box Y (cs := #[.int .i64 q.kd, .int .i64 q.tb, .int .i64 q.cl, .int .i64 q.lo, .int .i64 q.hi, .int .i64 q.bq, .int .i64 q.ot, .int .i64 c.t, .int .i64 c.k, .bool c.had, .int .i64 c.o.a, .int .i64 c.o.b, .int .i64 c.o.c, .bool c.has, .int .i64 c.n.a, .int .i64 c.n.b, .int .i64 c.n.c, .pointer p1, .pointer p2, .int .i64 o, .int .i64 n]) (cells_e q c p1 p2 o n)) ?_
 rintro _ _ ⟨be, rfl, rfl⟩
 refine Za Y <| Z0 <| Zx <| Zq <| Zg <| Zh 17 underlying86 rfl rfl sizeOf84 Y <| Zl isAgg84 Y ?_
 first | refine op_v (p_neq_nil_nil underlying84 Y Y) ?_ | refine op_v (p_neq_ptr_nil underlying84 Y Y) ?_ | refine op_v (p_neq_ptrO underlying84 Y Y) ?_
 refine Zm Y ?_
 refine ops_split_bool (t := 6) Y rfl (fun h1 => ?_) (fun h1 => ?_)
 ·
  refine op_skip Y rfl <| op_skip Y rfl <| op_skip Y rfl <| Zv (p_pick_t Y Y) <| Za Y <| Z0 <| Zx <| at_ret ?_
  refine nx_end1 rfl results41 Y (by exact ⟨by first | rfl | simp [h1], rfl⟩)
 ·
  refine Yf 18 underlying86 rfl rfl sizeOf84 Y <| Yl isAgg84 Y ?_
  first | refine op_wg Y (p_neq_nil_nil underlying84 Y Y) rfl rfl ?_ | refine op_wg Y (p_neq_ptr_nil underlying84 Y Y) rfl rfl ?_ | refine op_wg Y (p_neq_ptrO underlying84 Y Y) rfl rfl ?_
  refine Zv (p_pick_f Y Y) <| Za Y <| Z0 <| Zx <| at_ret ?_
  refine nx_end1 rfl results41 Y (by exact ⟨by first | rfl | simp [h1], rfl⟩)

theorem one_spec (q : QM) (c : Chg) (p1 p2 : Option Addr) (o n : Int) : DoesR Tryz.prog 43 #[.agg #[.int .i64 q.kd, .int .i64 q.tb, .int .i64 q.cl, .int .i64 q.lo, .int .i64 q.hi, .int .i64 q.bq, .int .i64 q.ot, .int .i64 c.t, .int .i64 c.k, .bool c.had, .int .i64 c.o.a, .int .i64 c.o.b, .int .i64 c.o.c, .bool c.has, .int .i64 c.n.a, .int .i64 c.n.b, .int .i64 c.n.c, .pointer p1, .pointer p2, .int .i64 o, .int .i64 n]] [] (.bool (p1.isSome != p2.isSome)) := by
 refine spec_enter func43 rfl ntmps43 rfl ?_
 intro u R
 refine Zb [0] ?_
 refine Zq <| Zg <| Ze (w_box Y (cs := #[.int .i64 q.kd, .int .i64 q.tb, .int .i64 q.cl, .int .i64 q.lo, .int .i64 q.hi, .int .i64 q.bq, .int .i64 q.ot, .int .i64 c.t, .int .i64 c.k, .bool c.had, .int .i64 c.o.a, .int .i64 c.o.b, .int .i64 c.o.c, .bool c.has, .int .i64 c.n.a, .int .i64 c.n.b, .int .i64 c.n.c, .pointer p1, .pointer p2, .int .i64 o, .int .i64 n]) (cells_e q c p1 p2 o n)) ?_
 rintro _ _ ⟨be, rfl, rfl⟩
 refine Za Y <| Z0 <| Zx <| Zq <| Zg <| Zh 17 underlying86 rfl rfl sizeOf84 Y <| Zl isAgg84 Y ?_
 first | refine op_v (p_eql_nil_nil underlying84 Y Y) ?_ | refine op_v (p_eql_ptr_nil underlying84 Y Y) ?_ | refine op_v (p_eql_ptrO underlying84 Y Y) ?_
 refine Zh 18 underlying86 rfl rfl sizeOf84 Y <| Zl isAgg84 Y ?_
 first | refine op_v (p_eql_nil_nil underlying84 Y Y) ?_ | refine op_v (p_eql_ptr_nil underlying84 Y Y) ?_ | refine op_v (p_eql_ptrO underlying84 Y Y) ?_
 refine Zv (p_neq_bool underlying4 Y Y) <| Za Y <| Z0 <| Zx <| at_ret ?_
 refine nx_end1 rfl results43 Y (by exact ⟨by cases p1 <;> cases p2 <;> rfl, rfl⟩)

theorem k1_spec (q : QM) (c : Chg) (p1 p2 : Option Addr) (o n : Int) : DoesR Tryz.prog 45 #[.agg #[.int .i64 q.kd, .int .i64 q.tb, .int .i64 q.cl, .int .i64 q.lo, .int .i64 q.hi, .int .i64 q.bq, .int .i64 q.ot, .int .i64 c.t, .int .i64 c.k, .bool c.had, .int .i64 c.o.a, .int .i64 c.o.b, .int .i64 c.o.c, .bool c.has, .int .i64 c.n.a, .int .i64 c.n.b, .int .i64 c.n.c, .pointer p1, .pointer p2, .int .i64 o, .int .i64 n]] [] (.bool (decide (o ≠ n))) := by
 refine spec_enter func45 rfl ntmps45 rfl ?_
 intro u R
 refine Zb [0] ?_
 refine Zq <| Zg <| Ze (w_box Y (cs := #[.int .i64 q.kd, .int .i64 q.tb, .int .i64 q.cl, .int .i64 q.lo, .int .i64 q.hi, .int .i64 q.bq, .int .i64 q.ot, .int .i64 c.t, .int .i64 c.k, .bool c.had, .int .i64 c.o.a, .int .i64 c.o.b, .int .i64 c.o.c, .bool c.has, .int .i64 c.n.a, .int .i64 c.n.b, .int .i64 c.n.c, .pointer p1, .pointer p2, .int .i64 o, .int .i64 n]) (cells_e q c p1 p2 o n)) ?_
 rintro _ _ ⟨be, rfl, rfl⟩
 refine Za Y <| Z0 <| Zx <| Zq <| Zg <| Zh 19 underlying86 rfl rfl sizeOf3 Y <| Zl isAgg3 Y ?_
 refine Zh 20 underlying86 rfl rfl sizeOf3 Y <| Zl isAgg3 Y ?_
 first | refine op_v (p_neq_nat Y Y) ?_ | refine op_v (p_neq Y Y) ?_
 refine Za Y <| Z0 <| Zx <| at_ret ?_
 refine nx_end1 rfl results45 Y (by exact ⟨by first | rfl | simp, rfl⟩)

theorem k2_spec (q : QM) (c : Chg) (p1 p2 : Option Addr) (o n : Int) : DoesR Tryz.prog 47 #[.agg #[.int .i64 q.kd, .int .i64 q.tb, .int .i64 q.cl, .int .i64 q.lo, .int .i64 q.hi, .int .i64 q.bq, .int .i64 q.ot, .int .i64 c.t, .int .i64 c.k, .bool c.had, .int .i64 c.o.a, .int .i64 c.o.b, .int .i64 c.o.c, .bool c.has, .int .i64 c.n.a, .int .i64 c.n.b, .int .i64 c.n.c, .pointer p1, .pointer p2, .int .i64 o, .int .i64 n]] [] (.bool ((p1.isSome != p2.isSome) || decide (o ≠ n))) := by
 refine spec_enter func47 rfl ntmps47 rfl ?_
 intro u R
 refine Zb [0] ?_
 refine Zq <| Zg <| Ze (w_box Y (cs := #[.int .i64 q.kd, .int .i64 q.tb, .int .i64 q.cl, .int .i64 q.lo, .int .i64 q.hi, .int .i64 q.bq, .int .i64 q.ot, .int .i64 c.t, .int .i64 c.k, .bool c.had, .int .i64 c.o.a, .int .i64 c.o.b, .int .i64 c.o.c, .bool c.has, .int .i64 c.n.a, .int .i64 c.n.b, .int .i64 c.n.c, .pointer p1, .pointer p2, .int .i64 o, .int .i64 n]) (cells_e q c p1 p2 o n)) ?_
 rintro _ _ ⟨be, rfl, rfl⟩
 refine Za Y <| Z0 <| Zx <| Zq <| Zg <| Zo (by repeat (first | exact Has.here _ | apply Has.there)) (p_load_agg isAgg86 sizeOf86 Y (by first | omega | decide | (simp; done)) (by first | exact ext_whole rfl | rfl)) ?_
 refine Zr [_] Y call43 Y rfl (one_spec q c p1 p2 o n) ?_
 rintro _ _ ⟨rfl, rfl⟩
 refine Zm Y ?_
 refine ops_split_bool (t := 5) Y rfl (fun h1 => ?_) (fun h1 => ?_)
 ·
  refine op_skip Y rfl <| op_skip Y rfl <| op_skip Y rfl <| op_skip Y rfl <| op_skip Y rfl <| Zv (p_pick_t Y Y) <| Za Y <| Z0 <| Zx <| at_ret ?_
  refine nx_end1 rfl results47 Y (by exact ⟨by first | rfl | simp [h1] | (rw [h1]; rfl), rfl⟩)
 ·
  refine Yf 19 underlying86 rfl rfl sizeOf3 Y <| Yl isAgg3 Y (hv := by first | exact ext_whole rfl | rfl) ?_
  refine Yf 20 underlying86 rfl rfl sizeOf3 Y <| Yl isAgg3 Y (hv := by first | exact ext_whole rfl | rfl) ?_
  first | refine op_wg Y (p_neq_nat Y Y) rfl rfl ?_ | refine op_wg Y (p_neq Y Y) rfl rfl ?_
  refine Zv (p_pick_f Y Y) <| Za Y <| Z0 <| Zx <| at_ret ?_
  refine nx_end1 rfl results47 Y (by exact ⟨by first | rfl | simp [h1] | (rw [h1]; rfl), rfl⟩)

theorem k4_spec (q : QM) (c : Chg) (p1 p2 : Option Addr) (o n : Int) : DoesR Tryz.prog 50 #[.agg #[.int .i64 q.kd, .int .i64 q.tb, .int .i64 q.cl, .int .i64 q.lo, .int .i64 q.hi, .int .i64 q.bq, .int .i64 q.ot, .int .i64 c.t, .int .i64 c.k, .bool c.had, .int .i64 c.o.a, .int .i64 c.o.b, .int .i64 c.o.c, .bool c.has, .int .i64 c.n.a, .int .i64 c.n.b, .int .i64 c.n.c, .pointer p1, .pointer p2, .int .i64 o, .int .i64 n]] [] (.bool ((p1.isSome != p2.isSome) || decide (o ≠ n))) := by
 refine spec_enter func50 rfl ntmps50 rfl ?_
 intro u R
 refine Zb [0] ?_
 refine Zq <| Zg <| Ze (w_box Y (cs := #[.int .i64 q.kd, .int .i64 q.tb, .int .i64 q.cl, .int .i64 q.lo, .int .i64 q.hi, .int .i64 q.bq, .int .i64 q.ot, .int .i64 c.t, .int .i64 c.k, .bool c.had, .int .i64 c.o.a, .int .i64 c.o.b, .int .i64 c.o.c, .bool c.has, .int .i64 c.n.a, .int .i64 c.n.b, .int .i64 c.n.c, .pointer p1, .pointer p2, .int .i64 o, .int .i64 n]) (cells_e q c p1 p2 o n)) ?_
 rintro _ _ ⟨be, rfl, rfl⟩
 refine Za Y <| Z0 <| Zx <| Zq <| Zg <| Zo (by repeat (first | exact Has.here _ | apply Has.there)) (p_load_agg isAgg86 sizeOf86 Y (by first | omega | decide | (simp; done)) (by first | exact ext_whole rfl | rfl)) ?_
 refine Zr [_] Y call43 Y rfl (one_spec q c p1 p2 o n) ?_
 rintro _ _ ⟨rfl, rfl⟩
 refine Zm Y ?_
 refine ops_split_bool (t := 5) Y rfl (fun h1 => ?_) (fun h1 => ?_)
 ·
  refine op_skip Y rfl <| op_skip Y rfl <| op_skip Y rfl <| op_skip Y rfl <| op_skip Y rfl <| Zv (p_pick_t Y Y) <| Za Y <| Z0 <| Zx <| at_ret ?_
  refine nx_end1 rfl results50 Y (by exact ⟨by first | rfl | simp [h1] | (rw [h1]; rfl), rfl⟩)
 ·
  refine Yf 19 underlying86 rfl rfl sizeOf3 Y <| Yl isAgg3 Y (hv := by first | exact ext_whole rfl | rfl) ?_
  refine Yf 20 underlying86 rfl rfl sizeOf3 Y <| Yl isAgg3 Y (hv := by first | exact ext_whole rfl | rfl) ?_
  first | refine op_wg Y (p_neq_nat Y Y) rfl rfl ?_ | refine op_wg Y (p_neq Y Y) rfl rfl ?_
  refine Zv (p_pick_f Y Y) <| Za Y <| Z0 <| Zx <| at_ret ?_
  refine nx_end1 rfl results50 Y (by exact ⟨by first | rfl | simp [h1] | (rw [h1]; rfl), rfl⟩)

theorem k6_spec (q : QM) (c : Chg) (p1 p2 : Option Addr) (o n : Int) : DoesR Tryz.prog 52 #[.agg #[.int .i64 q.kd, .int .i64 q.tb, .int .i64 q.cl, .int .i64 q.lo, .int .i64 q.hi, .int .i64 q.bq, .int .i64 q.ot, .int .i64 c.t, .int .i64 c.k, .bool c.had, .int .i64 c.o.a, .int .i64 c.o.b, .int .i64 c.o.c, .bool c.has, .int .i64 c.n.a, .int .i64 c.n.b, .int .i64 c.n.c, .pointer p1, .pointer p2, .int .i64 o, .int .i64 n]] [] (.bool ((p1.isSome || p2.isSome) || decide (c.t = q.ot))) := by
 refine spec_enter func52 rfl ntmps52 rfl ?_
 intro u R
 refine Zb [0] ?_
 refine Zq <| Zg <| Ze (w_box Y (cs := #[.int .i64 q.kd, .int .i64 q.tb, .int .i64 q.cl, .int .i64 q.lo, .int .i64 q.hi, .int .i64 q.bq, .int .i64 q.ot, .int .i64 c.t, .int .i64 c.k, .bool c.had, .int .i64 c.o.a, .int .i64 c.o.b, .int .i64 c.o.c, .bool c.has, .int .i64 c.n.a, .int .i64 c.n.b, .int .i64 c.n.c, .pointer p1, .pointer p2, .int .i64 o, .int .i64 n]) (cells_e q c p1 p2 o n)) ?_
 rintro _ _ ⟨be, rfl, rfl⟩
 refine Za Y <| Z0 <| Zx <| Zq <| Zg <| Zo (by repeat (first | exact Has.here _ | apply Has.there)) (p_load_agg isAgg86 sizeOf86 Y (by first | omega | decide | (simp; done)) (by first | exact ext_whole rfl | rfl)) ?_
 refine Zr [_] Y call41 Y rfl (any_spec q c p1 p2 o n) ?_
 rintro _ _ ⟨rfl, rfl⟩
 refine Zm Y ?_
 refine ops_split_bool (t := 5) Y rfl (fun h1 => ?_) (fun h1 => ?_)
 ·
  refine op_skip Y rfl <| op_skip Y rfl <| op_skip Y rfl <| op_skip Y rfl <| op_skip Y rfl <| op_skip Y rfl <| op_skip Y rfl <| Zv (p_pick_t Y Y) <| Za Y <| Z0 <| Zn [2] ?_
  refine Zx <| at_ret ?_
  refine nx_end1 rfl results52 Y (by exact ⟨by first | rfl | simp [h1] | (rw [h1]; rfl), rfl⟩)
 ·
  refine Yf 7 underlying86 rfl rfl sizeOf40 Y <| Yg (p_fieldAddr1 (off := 0) underlying40 rfl rfl sizeOf3 Y) <| Yl isAgg3 Y (hv := by first | exact ext_whole rfl | rfl) ?_
  refine Yf 0 underlying86 rfl rfl sizeOf29 Y <| Yg (p_fieldAddr1 (off := 6) underlying29 rfl rfl sizeOf3 Y) <| Yl isAgg3 Y (hv := by first | exact ext_whole rfl | rfl) ?_
  first | refine op_wg Y (p_eql_nat Y Y) rfl rfl ?_ | refine op_wg Y (p_eql Y Y) rfl rfl ?_
  refine Zv (p_pick_f Y Y) <| Za Y <| Z0 <| Zn [2] ?_
  refine Zx <| at_ret ?_
  refine nx_end1 rfl results52 Y (by exact ⟨by first | rfl | simp [h1] | (rw [h1]; rfl), rfl⟩)

end Go.Proofs.YtkgmgmkbgnkdnaaGreat
