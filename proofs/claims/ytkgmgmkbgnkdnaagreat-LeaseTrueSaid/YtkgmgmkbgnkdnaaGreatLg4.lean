/- The program's layer 3: within. -/
import Derived.Test.YtkgmgmkbgnkdnaaGreatEz
import Derived.Test.YtkgmgmkbgnkdnaaGreatLg3
namespace Go.Proofs.YtkgmgmkbgnkdnaaGreat
open Go.Proofs.Tryz
open Go Go.RowKit Gw
set_option linter.unusedVariables false
set_option linter.unusedSimpArgs false
set_option maxRecDepth 100000
attribute [local irreducible] Gw.At Gw.Nx Gw.Ops
def out (lo hi n : Int) : Bool := decide (n < lo) || decide (hi < n)
def IntsAt (cur : Array Value) (o : Nat) (ns : List Int) : Prop := ∀ (i : Nat) (n : Int), ns[i]? = some n → cur[o + i]? = some (.int .i64 n)
theorem any_takeI (p : Int → Bool) (ls : List Int) (i : Nat) (x : Int) (h : ls[i]? = some x) : (ls.take (i + 1)).any p = ((ls.take i).any p || p x) := by
  rw [List.take_add_one, h]; simp
theorem any_atI (p : Int → Bool) (ls : List Int) (i : Nat) (x : Int) (h : ls[i]? = some x) (hx : p x = true) : ls.any p = true := by
  rw [List.any_eq_true]
  exact ⟨x, List.mem_of_getElem? h, hx⟩

theorem rw_out (lp hp : Nat) (n lo hi : Int) : DoesR Tryz.prog 124 #[.int .i64 n, .pointer (some ⟨lp, 0, none⟩), .pointer (some ⟨hp, 0, none⟩)] [[(lp, .cells #[.int .i64 lo] 3 (0, 0))], [(hp, .cells #[.int .i64 hi] 3 (0, 0))]] (.bool (out lo hi n)) := by
 refine spec_enter func124 rfl ntmps124 rfl ?_
 intro u R
 refine Zb [0, 1, 2] ?_
 refine Zq <| Zg <| Za Y <| Z0 <| Zx <| Zq <| Zg <| Zm Y <| Zl isAgg3 Y ?_
 refine Zv (p_lss Y Y) <| Zm Y ?_
 refine ops_split (t := 8) Y rfl (fun h1 => ?_) (fun h1 => ?_)
 ·
  refine op_skip Y rfl <| op_skip Y rfl <| op_skip Y rfl <| Zv (p_pick_t Y Y) <| Za Y <| Z0 <| Zx <| at_ret ?_
  refine nx_end1 rfl results124 Y (by exact ⟨by simp [out, h1], rfl⟩)
 ·
  refine Zf Y Y <| Yl isAgg3 Y ?_
  refine Yg (p_gtr Y Y) <| Zv (p_pick_f Y Y) <| Za Y <| Z0 <| Zx <| at_ret ?_
  refine nx_end1 rfl results124 Y (by exact ⟨by simp [out, h1], rfl⟩)

theorem index_ints (lp hp g off cap : Nat) (lo hi : Int) (cur : Array Value) (T : TypeId) (z : Nat × Nat) (ls : List Int) (hin : IntsAt cur off ls) (hn : ls.length ≤ 1073741824) :
    Does Tryz.prog 139 #[.slice (some ⟨g, off, none⟩) ls.length cap, .func (.func 124) #[] #[.pointer (some ⟨lp, 0, none⟩), .pointer (some ⟨hp, 0, none⟩)]] [[(lp, .cells #[.int .i64 lo] 3 (0, 0))], [(hp, .cells #[.int .i64 hi] 3 (0, 0))], [(g, .cells cur T z)]] (fun r H' => ∃ k : Int, r = .int .i64 k ∧ decide (0 ≤ k) = ls.any (out lo hi) ∧ H' = [[(lp, .cells #[.int .i64 lo] 3 (0, 0))], [(hp, .cells #[.int .i64 hi] 3 (0, 0))], [(g, .cells cur T z)]]) := by
 refine spec_enter func139 rfl ntmps139 rfl ?_
 intro u R
 refine Zb [0, 1] ?_
 refine Zq <| Zg <| Za Y <| Z0 <| Zx <| Zq <| Zq <| Zg <| Zm Y <| Zv (p_len_slice underlying114 Y) <| Zm Y <| Z0 <| Zx <| at_block <| Zb [8, 0, 1, 7] ?_
 refine at_loopB (e0 := [(8, _)]) (H0 := _) (n := _) (fun m e H => ∃ (i : Nat), m = ls.length - i ∧ (i ≤ ls.length ∧ (ls.take i).any (out lo hi) = false) ∧ e = [(8, .int .i64 (i : Int))] ∧ H = []) (by exact ⟨0, rfl, ⟨Nat.zero_le _, rfl⟩, rfl, rfl⟩) (by repeat (first | exact Pull.nil _ | (apply Pull.cons; (focus (repeat (first | exact One.here _ _ | apply One.there)))))) ?_
 rintro _ _ _ ⟨i, rfl, ⟨hi9, hany⟩, rfl, rfl⟩
 refine Zq <| Zg <| Zv (p_lss_nat Y Y) <| Z0 <| Zx <| Zq ?_
 refine at_if Y (fun hlt => ?_) (fun hlt => ?_)
 ·
  refine at_skip <| Zx <| Zq <| at_block <| Zq <| Zg <| Zm Y <| Za Y <| Z0 <| Zx <| Zq ?_
  obtain ⟨x, hx⟩ : ∃ x, ls[i]? = some x := ⟨_, List.getElem?_eq_getElem hlt⟩
  refine Zg <| Zm Y <| Zm Y <| Zm Y ?_
  (refine op_v (p_indexAddr_nat1 underlying114 sizeOf3 Y Y ?_) ?_; (focus (omega)))
  refine Zl isAgg3 Y (hv := by exact hin i x hx) ?_
  refine Zr [_] Y call124 Y rfl (rw_out lp hp x lo hi) ?_
  rintro _ _ ⟨rfl, rfl⟩
  refine Z0 <| Zx ?_
  refine at_if_bool Y (fun hlx => ?_) (fun hlx => ?_)
  ·
   refine Zq <| Zg <| Zm Y <| Za Y <| Z0 <| Zx <| at_ret <| nx_block_ret <| Zt <| Zt <| nx_block_ret <| Zt ?_
   refine nx_end1 rfl results139 Y (by exact ⟨(i : Int), rfl, by rw [any_atI _ ls i x hx hlx]; exact decide_eq_true (by omega), rfl⟩)
  ·
   refine at_skip <| nx_block_normal <| Zx <| Zg <| Ya (n := 1) Y Y <| Zm Y <| Z0 <| Zn [8, 0, 1, 7] ?_
   refine nx_againB (e' := [(8, _)]) (m := _) (H' := _) (by exact ⟨i + 1, rfl, ⟨by omega, by rw [any_takeI _ ls i x hx, hany]; exact hlx⟩, rfl, rfl⟩)
 ·
  have ei : i = ls.length := by omega
  subst ei
  rw [List.take_length] at hany
  refine at_exit <| Zt <| Zt <| nx_block_exit <| Zx <| Zq <| Zg <| Za Y <| Z0 <| Zx <| at_ret ?_
  refine nx_end1 rfl results139 Y (by exact ⟨-1, rfl, by rw [hany]; rfl, rfl⟩)

theorem contains_ints (lp hp g off cap : Nat) (lo hi : Int) (cur : Array Value) (T : TypeId) (z : Nat × Nat) (ls : List Int) (hin : IntsAt cur off ls) (hn : ls.length ≤ 1073741824) :
    DoesR Tryz.prog 123 #[.slice (some ⟨g, off, none⟩) ls.length cap, .func (.func 124) #[] #[.pointer (some ⟨lp, 0, none⟩), .pointer (some ⟨hp, 0, none⟩)]] [[(lp, .cells #[.int .i64 lo] 3 (0, 0))], [(hp, .cells #[.int .i64 hi] 3 (0, 0))], [(g, .cells cur T z)]] (.bool (ls.any (out lo hi))) := by
 refine spec_enter func123 rfl ntmps123 rfl ?_
 intro u R
 refine Zb [0, 1] ?_
 refine Zq <| Zg <| Za Y <| Z0 <| Zx <| Zq <| Zg <| Zm Y <| Zm Y <| Zc [_, _] Y call139 Y rfl (index_ints lp hp g off cap lo hi cur T z ls hin hn) ?_
 rintro _ _ ⟨_, ⟨k, rfl, hk, rfl⟩, rfl⟩
 refine Zv (p_geq Y Y) <| Za Y <| Z0 <| Zx <| at_ret ?_
 refine nx_end1 rfl results123 Y (by exact ⟨by rw [← hk], rfl⟩)

theorem rw_within (g off cap : Nat) (lo hi : Int) (cur : Array Value) (T : TypeId) (z : Nat × Nat) (ls : List Int) (hin : IntsAt cur off ls) (hn : ls.length ≤ 1073741824) :
    DoesR Tryz.prog 103 #[.int .i64 lo, .int .i64 hi, .slice (some ⟨g, off, none⟩) ls.length cap] [[(g, .cells cur T z)]] (.bool (!(ls.any (out lo hi)))) := by
 refine spec_enter func103 rfl ntmps103 rfl ?_
 intro u R
 refine Zb [0, 1, 2] ?_
 refine Zq <| Zg <| Ze (w_box Y (cs := #[_]) rfl) ?_
 rintro _ _ ⟨b1, rfl, rfl⟩
 refine Ze (w_box Y (cs := #[_]) rfl) ?_
 rintro _ _ ⟨b2, rfl, rfl⟩
 refine Za Y <| Z0 <| Zx <| Zq <| Zg <| Zm Y <| Zv (p_makeFunc (vs := []) (us := [_, _]) Y Y) ?_
 refine Zr [_, _] Y call123 Y rfl (contains_ints _ _ g off cap lo hi cur T z ls hin hn) ?_
 rintro _ _ ⟨rfl, rfl⟩
 refine Zv (p_not Y) <| Za Y <| Z0 <| Zx <| at_ret ?_
 refine nx_end1 rfl results103 Y (by exact ⟨rfl, rfl⟩)

def halfL (c : Chg) (th : Bool) (v : V3) : RowM := if th then ⟨c.t, c.k, v⟩ else RowM.zero
theorem half_t {c : Chg} {th : Bool} {v : V3} (h : th = true) : halfL c th v = ⟨c.t, c.k, v⟩ := if_pos h
theorem half_f {c : Chg} {th : Bool} {v : V3} (h : th = false) : halfL c th v = RowM.zero := if_neg (by rw [h]; decide)
theorem out_iff (lo hi n : Int) : (!(([n] : List Int).any (out lo hi))) = decide (lo ≤ n ∧ n ≤ hi) := by
  simp only [List.any_cons, List.any_nil, Bool.or_false, out]
  by_cases h1 : n < lo <;> by_cases h2 : hi < n <;> simp [h1, h2] <;> omega
theorem out_v3 (v : V3) : (!(([v.a, v.b, v.c] : List Int).any (out (-1000000000) 1000000000))) = decide v.ok := by
  have h : ∀ n, out (-1000000000) 1000000000 n = !decide (inV n) := by
    intro n
    have := out_iff (-1000000000) 1000000000 n
    simp only [List.any_cons, List.any_nil, Bool.or_false] at this
    rw [← Bool.not_not (out _ _ n), this]; rfl
  simp only [List.any_cons, List.any_nil, Bool.or_false, h, V3.ok]
  by_cases h1 : inV v.a <;> by_cases h2 : inV v.b <;> by_cases h3 : inV v.c <;> simp [h1, h2, h3]

theorem ints1 {cur : Array Value} {o : Nat} {n : Int} (h : cur[o]? = some (.int .i64 n)) : IntsAt cur o [n] := by
  intro i x hx
  rcases i with _ | i
  · injection hx with hx; rw [← hx]; exact h
  · cases hx
theorem ints3 {cur : Array Value} {o : Nat} {v : V3} (h0 : cur[o]? = some (.int .i64 v.a)) (h1 : cur[o + 1]? = some (.int .i64 v.b)) (h2 : cur[o + 2]? = some (.int .i64 v.c)) : IntsAt cur o [v.a, v.b, v.c] := by
  intro i x hx
  rcases i with _ | _ | _ | i
  · injection hx with hx; rw [← hx]; exact h0
  · injection hx with hx; rw [← hx]; exact h1
  · injection hx with hx; rw [← hx]; exact h2
  · cases hx
theorem rw_within1 (g off cap : Nat) (lo hi : Int) (cur : Array Value) (T : TypeId) (z : Nat × Nat) (n : Int) (h : cur[off]? = some (.int .i64 n)) :
    DoesR Tryz.prog 103 #[.int .i64 lo, .int .i64 hi, .slice (some ⟨g, off, none⟩) 1 cap] [[(g, .cells cur T z)]] (.bool (decide (lo ≤ n ∧ n ≤ hi))) := by
  rw [← out_iff]; exact rw_within g off cap lo hi cur T z [n] (ints1 h) (by simp)
theorem rw_within3 (g off cap : Nat) (cur : Array Value) (T : TypeId) (z : Nat × Nat) (v : V3) (h : IntsAt cur off [v.a, v.b, v.c]) :
    DoesR Tryz.prog 103 #[.int .i64 (-1000000000), .int .i64 1000000000, .slice (some ⟨g, off, none⟩) 3 cap] [[(g, .cells cur T z)]] (.bool (decide v.ok)) := by
  rw [← out_v3]; exact rw_within g off cap _ _ cur T z [v.a, v.b, v.c] h (by simp)

theorem rw_half (c : Chg) (th : Bool) (v : V3) : DoesR Tryz.prog 76 #[.agg #[.int .i64 c.t, .int .i64 c.k, .bool c.had, .int .i64 c.o.a, .int .i64 c.o.b, .int .i64 c.o.c, .bool c.has, .int .i64 c.n.a, .int .i64 c.n.b, .int .i64 c.n.c], .bool th, .agg #[.int .i64 v.a, .int .i64 v.b, .int .i64 v.c]] [] (.tuple #[.agg #[.int .i64 (halfL c th v).t, .int .i64 (halfL c th v).k, .int .i64 (halfL c th v).v.a, .int .i64 (halfL c th v).v.b, .int .i64 (halfL c th v).v.c], .bool th]) := by
 refine spec_enter func76 rfl ntmps76 rfl ?_
 intro u R
 refine Zb [0, 1, 2] ?_
 refine Zq <| Zg <| Ze (w_box Y (cs := #[_, _, _, _, _, _, _, _, _, _]) rfl) ?_
 rintro _ _ ⟨b1, rfl, rfl⟩
 refine Ze (w_box Y (cs := #[_, _, _]) rfl) ?_
 rintro _ _ ⟨b2, rfl, rfl⟩
 refine Ze (w_alloc zeroValue62 (cs := #[_, _, _, _, _]) rfl) ?_
 rintro _ _ ⟨b3, rfl, rfl⟩
 refine Za Y <| Z0 <| Zx <| Zq <| Zq <| Zg <| Zm Y <| Zv (p_not Y) <| Z0 <| Zx ?_
 refine at_if_bool Y (fun hh => ?_) (fun hh => ?_)
 ·
  refine Zq <| Zg <| Zv (p_build (vs := []) (cs := #[_, _, _, _, _]) Y (run_build_struct (pl := #[(0, 1), (1, 1), (2, 3)]) zeroValue62 underlying62 (fun _ => by kernel_rfl) rfl)) ?_
  refine Ze (w_store_agg sizeOf62 Y Y (by (simp [Value.oneCell']; done)) (by repeat (first | exact Upd.here _ | apply Upd.there)) (by rfl) (by first | rfl | (simp; done)) (by first | decide | exact Nat.le_refl _ | (simp; done) | (simp; omega)) (by exact free_zero _)) ?_
  rintro _ _ ⟨rfl, rfl⟩
  refine Za Y <| Z0 <| Zx <| at_ret <| Zt ?_
  refine nx_endct rfl results76 Y (by repeat (first | exact Has.here _ | apply Has.there)) (loadVar_agg isAgg62 sizeOf62 (by first | decide | exact Nat.le_refl _ | (simp; done) | (simp; omega)) (rfl)) Y (by simp only [Bool.not_eq_eq_eq_not, Bool.not_true, Bool.not_false] at hh; exact ⟨by (rw [half_f hh, hh]; rfl), rfl⟩)
 ·
  refine at_skip <| Zx <| Zq <| Zg <| Zh 0 underlying40 rfl rfl sizeOf3 Y <| Zl isAgg3 Y ?_
  refine Zh 1 underlying40 rfl rfl sizeOf3 Y <| Zl isAgg3 Y ?_
  refine Zo (by repeat (first | exact Has.here _ | apply Has.there)) (p_load_agg (cs := #[_, _, _]) isAgg38 sizeOf38 Y (by first | decide | exact Nat.le_refl _ | (simp; done) | (simp; omega)) (by rfl)) ?_
  refine Zv (p_build (vs := [(0, _), (1, _), (2, _)]) (cs := #[_, _, _, _, _]) Y (run_build_struct (pl := #[(0, 1), (1, 1), (2, 3)]) zeroValue62 underlying62 (fun _ => by kernel_rfl) rfl)) ?_
  refine Ze (w_store_agg sizeOf62 Y Y (by (simp [Value.oneCell', Value.cells]; done)) (by repeat (first | exact Upd.here _ | apply Upd.there)) (by rfl) (by first | rfl | (simp; done)) (by first | decide | exact Nat.le_refl _ | (simp; done) | (simp; omega)) (by exact free_zero _)) ?_
  rintro _ _ ⟨rfl, rfl⟩
  refine Za Y <| Z0 <| Zn [6, 7] ?_
  refine Zx <| at_ret ?_
  refine nx_endct rfl results76 Y (by repeat (first | exact Has.here _ | apply Has.there)) (loadVar_agg isAgg62 sizeOf62 (by first | decide | exact Nat.le_refl _ | (simp; done) | (simp; omega)) (rfl)) Y (by simp only [Bool.not_eq_eq_eq_not, Bool.not_true, Bool.not_false] at hh; exact ⟨by (rw [half_t hh, hh]; rfl), rfl⟩)

theorem rw_valid (r : RowM) : DoesR Tryz.prog 77 #[.agg #[.int .i64 r.t, .int .i64 r.k, .int .i64 r.v.a, .int .i64 r.v.b, .int .i64 r.v.c]] [] (.bool (decide r.ok)) := by
 refine spec_enter func77 rfl ntmps77 rfl ?_
 intro u R
 refine Zb [0] ?_
 refine Zq <| Zg <| Ze (w_box Y (cs := #[_, _, _, _, _]) rfl) ?_
 rintro _ _ ⟨b1, rfl, rfl⟩
 refine Za Y <| Z0 <| Zx <| Zq <| Zg <| Zh 0 underlying62 rfl rfl sizeOf3 Y <| Zl isAgg3 Y ?_
 refine Ze (w_buildSlice (vs := [_]) (cs := [_]) underlying114 sizeOf3 zeroValue3 Y rfl rfl rfl rfl rfl) ?_
 rintro _ _ ⟨b2, rfl, rfl⟩
 refine Zr [_, _, _] Y call103 Y rfl (rw_within1 _ 0 1 _ _ _ _ _ r.t rfl) ?_
 rintro _ _ ⟨rfl, rfl⟩
 refine Zm Y ?_
 refine ops_split (t := 7) Y rfl (fun hc1 => ?_) (fun hc1 => ?_)
 ·
  refine Yf 1 underlying62 rfl rfl sizeOf3 Y <| Yl isAgg3 Y ?_
  refine Ze (w_buildSlice (vs := [_]) (cs := [_]) underlying114 sizeOf3 zeroValue3 Y rfl rfl rfl rfl rfl) ?_
  rintro _ _ ⟨b3, rfl, rfl⟩
  refine Zr [_, _, _] Y call103 Y rfl (rw_within1 _ 0 1 _ _ _ _ _ r.k rfl) ?_
  rintro _ _ ⟨rfl, rfl⟩
  refine Zv (p_pick_t Y Y) <| Zm Y ?_
  refine ops_split (t := 13) Y rfl (fun hc2 => ?_) (fun hc2 => ?_)
  ·
   refine Yf 2 underlying62 rfl rfl sizeOf38 Y <| Yg (p_slice_arr_all underlying38 sizeOf3 Y) <| Zr [_, _, _] Y call103 Y rfl (rw_within3 _ 2 3 _ _ _ r.v (ints3 rfl rfl rfl)) ?_
   rintro _ _ ⟨rfl, rfl⟩
   refine Zv (p_pick_t Y Y) <| Za Y <| Z0 <| Zn [2] ?_
   refine Zx <| at_ret ?_
   refine nx_end1 rfl results77 Y (by exact ⟨by (simp_all [RowM.ok]; done), rfl⟩)
  ·
   refine op_skip Y rfl <| op_skip Y rfl <| op_skip Y rfl <| Zv (p_pick_f Y Y) <| Za Y <| Z0 <| Zn [2] ?_
   refine Zx <| at_ret ?_
   refine nx_end1 rfl results77 Y (by exact ⟨by (simp_all [RowM.ok]; done), rfl⟩)
 ·
  refine op_skip Y rfl <| op_skip Y rfl <| op_skip Y rfl <| op_skip Y rfl <| Zv (p_pick_f Y Y) <| Zm Y <| op_skip Y rfl <| op_skip Y rfl <| op_skip Y rfl <| Zv (p_pick_f Y Y) <| Za Y <| Z0 <| Zn [2] ?_
  refine Zx <| at_ret ?_
  refine nx_end1 rfl results77 Y (by exact ⟨by rw [decide_eq_false (fun h9 : r.ok => by have h91 := h9.2.1; have h92 := h9.2.2; omega)], rfl⟩)

theorem rw_sound (c : Chg) (th : Bool) (v : V3) : DoesR Tryz.prog 40 #[.agg #[.int .i64 c.t, .int .i64 c.k, .bool c.had, .int .i64 c.o.a, .int .i64 c.o.b, .int .i64 c.o.c, .bool c.has, .int .i64 c.n.a, .int .i64 c.n.b, .int .i64 c.n.c], .bool th, .agg #[.int .i64 v.a, .int .i64 v.b, .int .i64 v.c]] [] (.bool (if th then decide (halfL c th v).ok else decide (v = V3.zero))) := by
 refine spec_enter func40 rfl ntmps40 rfl ?_
 intro u R
 refine Zb [0, 1, 2] ?_
 refine Zq <| Zg <| Ze (w_box Y (cs := #[_, _, _, _, _, _, _, _, _, _]) rfl) ?_
 rintro _ _ ⟨b1, rfl, rfl⟩
 refine Ze (w_box Y (cs := #[_, _, _]) rfl) ?_
 rintro _ _ ⟨b2, rfl, rfl⟩
 refine Za Y <| Z0 <| Zx <| Zq <| Zg <| Zo (by repeat (first | exact Has.here _ | apply Has.there)) (p_load_agg (cs := #[_, _, _, _, _, _, _, _, _, _]) isAgg40 sizeOf40 Y (by first | decide | exact Nat.le_refl _ | (simp; done) | (simp; omega)) (by rfl)) ?_
 refine Zm Y <| Zo (by repeat (first | exact Has.here _ | apply Has.there)) (p_load_agg (cs := #[_, _, _]) isAgg38 sizeOf38 Y (by first | decide | exact Nat.le_refl _ | (simp; done) | (simp; omega)) (by rfl)) ?_
 refine Zr [_, _, _] Y call76 Y rfl (rw_half c th v) ?_
 rintro _ _ ⟨rfl, rfl⟩
 refine Zm Y <| Zd Y rfl <| Zd Y rfl <| Ze (w_alloc zeroValue62 (cs := #[_, _, _, _, _]) rfl) ?_
 rintro _ _ ⟨b3, rfl, rfl⟩
 refine Ze (w_store_agg sizeOf62 Y Y (by (simp [Value.oneCell']; done)) (by repeat (first | exact Upd.here _ | apply Upd.there)) (by rfl) (by first | rfl | (simp; done)) (by first | decide | exact Nat.le_refl _ | (simp; done) | (simp; omega)) (by exact free_zero _)) ?_
 rintro _ _ ⟨rfl, rfl⟩
 refine Za Y <| Z0 <| Zn [1, 5, 7] ?_
 refine Zx <| Zq <| Zg <| Zm Y <| Zm Y ?_
 refine ops_split_bool (t := 17) Y rfl (fun hc1 => ?_) (fun hc1 => ?_)
 ·
  refine op_rg Y (by repeat (first | exact Has.here _ | apply Has.there)) (p_load_agg (cs := #[_, _, _, _, _]) isAgg62 sizeOf62 Y (by first | decide | exact Nat.le_refl _ | (simp; done) | (simp; omega)) (by rfl)) rfl rfl ?_
  refine Zr [_] Y call77 Y rfl (rw_valid _) ?_
  rintro _ _ ⟨rfl, rfl⟩
  refine Zv (p_pick_t Y Y) <| Zm Y ?_
  refine ops_split (t := 21) Y rfl (fun hc2 => ?_) (fun hc2 => ?_)
  ·
   refine op_skip Y rfl <| op_skip Y rfl <| op_skip Y rfl <| op_skip Y rfl <| op_skip Y rfl <| op_skip Y rfl <| op_skip Y rfl <| Zv (p_pick_t Y Y) <| Za Y <| Z0 <| Zn [6] ?_
   refine Zx <| at_ret ?_
   refine nx_end1 rfl results40 Y (by exact ⟨by simp_all, rfl⟩)
  ·
   refine Zf Y Y <| Yg (p_not Y) <| Zf Y Y ?_
   refine ops_split_bool (t := 24) Y rfl (fun hc3 => ?_) (fun hc3 => ?_)
   ·
    refine op_rg Y (by repeat (first | exact Has.here _ | apply Has.there)) (p_load_agg (cs := #[_, _, _]) isAgg38 sizeOf38 Y (by first | decide | exact Nat.le_refl _ | (simp; done) | (simp; omega)) (by rfl)) rfl rfl ?_
    refine Yg (p_build (vs := []) (cs := #[_, _, _]) Y (run_build_array zeroValue38 underlying38 sizeOf3 rfl)) ?_
    refine Yg (p_eql_arr3z (by kernel_rfl) underlying38 underlying3 isAgg3 sizeOf3 Y Y) ?_
    refine Yg (p_pick_t Y Y) <| Zv (p_pick_f Y Y) <| Za Y <| Z0 <| Zn [6] ?_
    refine Zx <| at_ret ?_
    refine nx_end1 rfl results40 Y (by exact ⟨by simp_all, rfl⟩)
   ·
    refine op_skip Y rfl <| op_skip Y rfl <| op_skip Y rfl <| Yg (p_pick_f Y Y) <| Zv (p_pick_f Y Y) <| Za Y <| Z0 <| Zn [6] ?_
    refine Zx <| at_ret ?_
    refine nx_end1 rfl results40 Y (by exact ⟨by simp_all, rfl⟩)
 ·
  refine op_skip Y rfl <| op_skip Y rfl <| Zv (p_pick_f Y Y) <| Zm Y <| Zf Y Y <| Yg (p_not Y) <| Zf Y Y ?_
  refine ops_split_bool (t := 24) Y rfl (fun hc4 => ?_) (fun hc4 => ?_)
  ·
   refine op_rg Y (by repeat (first | exact Has.here _ | apply Has.there)) (p_load_agg (cs := #[_, _, _]) isAgg38 sizeOf38 Y (by first | decide | exact Nat.le_refl _ | (simp; done) | (simp; omega)) (by rfl)) rfl rfl ?_
   refine Yg (p_build (vs := []) (cs := #[_, _, _]) Y (run_build_array zeroValue38 underlying38 sizeOf3 rfl)) ?_
   refine Yg (p_eql_arr3z (by kernel_rfl) underlying38 underlying3 isAgg3 sizeOf3 Y Y) ?_
   refine Yg (p_pick_t Y Y) <| Zv (p_pick_f Y Y) <| Za Y <| Z0 <| Zn [6] ?_
   refine Zx <| at_ret ?_
   refine nx_end1 rfl results40 Y (by exact ⟨by simp_all, rfl⟩)
  ·
   refine op_skip Y rfl <| op_skip Y rfl <| op_skip Y rfl <| Yg (p_pick_f Y Y) <| Zv (p_pick_f Y Y) <| Za Y <| Z0 <| Zn [6] ?_
   refine Zx <| at_ret ?_
   refine nx_end1 rfl results40 Y (by exact ⟨by simp_all, rfl⟩)

end Go.Proofs.YtkgmgmkbgnkdnaaGreat
