/- The program's layer 3: within. -/
/- The program's layer 3: ValidChange. -/
/- The program's layer 3: put. -/
/- Rows of several cells, read. -/
import Derived.Test.YtkgmgmkbgnkdnaaGreatDoorEz
import Derived.Test.YtkgmgmkbgnkdnaaGreatDoorLg3
namespace Go.Proofs.YtkgmgmkbgnkdnaaGreatDoor
open Go.Proofs.Tryz
open Go Go.RowKit Gw
set_option linter.unusedVariables false
set_option linter.unusedSimpArgs false
set_option maxRecDepth 100000
attribute [local irreducible] Gw.At Gw.Nx Gw.Ops
def out (lo hi n : Int) : Bool := decide (n < lo) || decide (hi < n)
def IntsAt (cur : Array Value) (o : Nat) (ns : List Int) : Prop := ∀ (i : Nat) (n : Int), ns[i]? = some n → cur[o + i]? = some (.int .i64 n)
theorem any_takeI (p : Int → Bool) (ls : List Int) (i : Nat) (x : Int) (h : ls[i]? = some x) : (ls.take (i + 1)).any p = ((ls.take i).any p || p x) := by
  rw [List.take_add_one, h]; simp
theorem any_atI (p : Int → Bool) (ls : List Int) (i : Nat) (x : Int) (h : ls[i]? = some x) (hx : p x = true) : ls.any p = true := by
  rw [List.any_eq_true]
  exact ⟨x, List.mem_of_getElem? h, hx⟩

theorem rw_out (lp hp : Nat) (n lo hi : Int) : DoesR Tryz.prog 160 #[.int .i64 n, .pointer (some ⟨lp, 0, none⟩), .pointer (some ⟨hp, 0, none⟩)] [[(lp, .cells #[.int .i64 lo] 3 (0, 0))], [(hp, .cells #[.int .i64 hi] 3 (0, 0))]] (.bool (out lo hi n)) := by
 refine spec_enter func160 rfl ntmps160 rfl ?_
 intro u R
 refine Zb [0, 1, 2] ?_
 refine Zq <| Zg <| Za Y <| Z0 <| Zx <| Zq <| Zg <| Zm Y <| Zl isAgg3 Y ?_
 refine Zv (p_lss Y Y) <| Zm Y ?_
 refine ops_split (t := 8) Y rfl (fun h1 => ?_) (fun h1 => ?_)
 ·
  refine op_skip Y rfl <| op_skip Y rfl <| op_skip Y rfl <| Zv (p_pick_t Y Y) <| Za Y <| Z0 <| Zx <| at_ret ?_
  refine nx_end1 rfl results160 Y (by exact ⟨by simp [out, h1], rfl⟩)
 refine Zf Y Y <| Yl isAgg3 Y ?_
 refine Yg (p_gtr Y Y) <| Zv (p_pick_f Y Y) <| Za Y <| Z0 <| Zx <| at_ret ?_
 refine nx_end1 rfl results160 Y (by exact ⟨by simp [out, h1], rfl⟩)

theorem index_ints (lp hp g off cap : Nat) (lo hi : Int) (cur : Array Value) (T : TypeId) (z : Nat × Nat) (ls : List Int) (hin : IntsAt cur off ls) (hn : ls.length ≤ 1073741824) :
    Does Tryz.prog 181 #[.slice (some ⟨g, off, none⟩) ls.length cap, .func (.func 160) #[] #[.pointer (some ⟨lp, 0, none⟩), .pointer (some ⟨hp, 0, none⟩)]] [[(lp, .cells #[.int .i64 lo] 3 (0, 0))], [(hp, .cells #[.int .i64 hi] 3 (0, 0))], [(g, .cells cur T z)]] (fun r H' => ∃ k : Int, r = .int .i64 k ∧ decide (0 ≤ k) = ls.any (out lo hi) ∧ H' = [[(lp, .cells #[.int .i64 lo] 3 (0, 0))], [(hp, .cells #[.int .i64 hi] 3 (0, 0))], [(g, .cells cur T z)]]) := by
 refine spec_enter func181 rfl ntmps181 rfl ?_
 intro u R
 refine Zb [0, 1] ?_
 refine Zq <| Zg <| Za Y <| Z0 <| Zx <| Zq <| Zq <| Zg <| Zm Y <| Zv (p_len_slice underlying28 Y) <| Zm Y <| Z0 <| Zx <| at_block <| Zb [8, 0, 1, 7] ?_
 refine at_loopB (e0 := [(8, _)]) (H0 := _) (n := _) (fun m e H => ∃ (i : Nat), m = ls.length - i ∧ (i ≤ ls.length ∧ (ls.take i).any (out lo hi) = false) ∧ e = [(8, .int .i64 (i : Int))] ∧ H = []) (by exact ⟨0, rfl, ⟨Nat.zero_le _, rfl⟩, rfl, rfl⟩) Wp ?_
 rintro _ _ _ ⟨i, rfl, ⟨hi9, hany⟩, rfl, rfl⟩
 refine Zq <| Zg <| Zv (p_lss_nat Y Y) <| Z0 <| Zx <| Zq ?_
 refine at_if Y (fun hlt => ?_) (fun hlt => ?_)
 ·
  refine at_skip <| Zx <| Zq <| at_block <| Zq <| Zg <| Zm Y <| Za Y <| Z0 <| Zx <| Zq ?_
  obtain ⟨x, hx⟩ : ∃ x, ls[i]? = some x := ⟨_, List.getElem?_eq_getElem hlt⟩
  refine Zg <| Zm Y <| Zm Y <| Zm Y ?_
  (refine op_v (p_indexAddr_nat1 underlying28 sizeOf3 Y Y ?_) ?_; (focus (omega)))
  refine Zl isAgg3 Y (hv := by exact hin i x hx) ?_
  refine Xr [_] Y call160 Y rfl (rw_out lp hp x lo hi) ?_
  refine Z0 <| Zx ?_
  refine at_if_bool Y (fun hlx => ?_) (fun hlx => ?_)
  ·
   refine Zq <| Zg <| Zm Y <| Za Y <| Z0 <| Zx <| at_ret <| nx_block_ret <| Zt <| Zt <| nx_block_ret <| Zt ?_
   refine nx_end1 rfl results181 Y (by exact ⟨(i : Int), rfl, by rw [any_atI _ ls i x hx hlx]; exact decide_eq_true (by omega), rfl⟩)
  refine at_skip <| nx_block_normal <| Zx <| Zg <| Ya (n := 1) Y Y <| Zm Y <| Z0 <| Zn [8, 0, 1, 7] ?_
  refine nx_againB (e' := [(8, _)]) (m := _) (H' := _) (by exact ⟨i + 1, rfl, ⟨by omega, by rw [any_takeI _ ls i x hx, hany]; exact hlx⟩, rfl, rfl⟩)
 have ei : i = ls.length := by omega
 subst ei
 rw [List.take_length] at hany
 refine at_exit <| Zt <| Zt <| nx_block_exit <| Zx <| Zq <| Zg <| Za Y <| Z0 <| Zx <| at_ret ?_
 refine nx_end1 rfl results181 Y (by exact ⟨-1, rfl, by rw [hany]; rfl, rfl⟩)

theorem contains_ints (lp hp g off cap : Nat) (lo hi : Int) (cur : Array Value) (T : TypeId) (z : Nat × Nat) (ls : List Int) (hin : IntsAt cur off ls) (hn : ls.length ≤ 1073741824) :
    DoesR Tryz.prog 159 #[.slice (some ⟨g, off, none⟩) ls.length cap, .func (.func 160) #[] #[.pointer (some ⟨lp, 0, none⟩), .pointer (some ⟨hp, 0, none⟩)]] [[(lp, .cells #[.int .i64 lo] 3 (0, 0))], [(hp, .cells #[.int .i64 hi] 3 (0, 0))], [(g, .cells cur T z)]] (.bool (ls.any (out lo hi))) := by
 refine spec_enter func159 rfl ntmps159 rfl ?_
 intro u R
 refine Zb [0, 1] ?_
 refine Zq <| Zg <| Za Y <| Z0 <| Zx <| Zq <| Zg <| Zm Y <| Zm Y <| Zc [_, _] Y call181 Y rfl (index_ints lp hp g off cap lo hi cur T z ls hin hn) ?_
 rintro _ _ ⟨_, ⟨k, rfl, hk, rfl⟩, rfl⟩
 refine Zv (p_geq Y Y) <| Za Y <| Z0 <| Zx <| at_ret ?_
 refine nx_end1 rfl results159 Y (by exact ⟨by rw [← hk], rfl⟩)

theorem rw_within (g off cap : Nat) (lo hi : Int) (cur : Array Value) (T : TypeId) (z : Nat × Nat) (ls : List Int) (hin : IntsAt cur off ls) (hn : ls.length ≤ 1073741824) :
    DoesR Tryz.prog 132 #[.int .i64 lo, .int .i64 hi, .slice (some ⟨g, off, none⟩) ls.length cap] [[(g, .cells cur T z)]] (.bool (!(ls.any (out lo hi)))) := by
 refine spec_enter func132 rfl ntmps132 rfl ?_
 intro u R
 refine Zb [0, 1, 2] ?_
 refine Zq <| Zg <| Ze (w_box Y (cs := #[_]) rfl) ?_
 rintro _ _ ⟨b1, rfl, rfl⟩
 refine Ze (w_box Y (cs := #[_]) rfl) ?_
 rintro _ _ ⟨b2, rfl, rfl⟩
 refine Za Y <| Z0 <| Zx <| Zq <| Zg <| Zm Y <| Zv (p_makeFunc (vs := []) (us := [_, _]) Y Y) ?_
 refine Xr [_, _] Y call159 Y rfl (contains_ints _ _ g off cap lo hi cur T z ls hin hn) ?_
 refine Zv (p_not Y) <| Za Y <| Z0 <| Zx <| at_ret ?_
 refine nx_end1 rfl results132 Y (by exact ⟨rfl, rfl⟩)

def halfL (c : Chg) (th : Bool) (v : V3) : RowM := if th then ⟨c.t, c.k, v⟩ else RowM.zero
theorem half_t {c : Chg} {th : Bool} {v : V3} (h : th = true) : halfL c th v = ⟨c.t, c.k, v⟩ := if_pos h
theorem half_f {c : Chg} {th : Bool} {v : V3} (h : th = false) : halfL c th v = RowM.zero := if_neg (by rw [h]; decide)
theorem out_iff (lo hi n : Int) : (!(([n] : List Int).any (out lo hi))) = decide (lo ≤ n ∧ n ≤ hi) := by
  simp only [List.any_cons, List.any_nil, Bool.or_false, out]
  by_cases h1 : n < lo <;> by_cases h2 : hi < n <;> simp [h1, h2] <;> omega
theorem out_v3 (v : V3) : (!(([v.a, v.b, v.c] : List Int).any (out (-1000000000) 1000000000))) = decide v.ok := by
  have h : ∀ n, out (-1000000000) 1000000000 n = !decide (inV n) := by
    intro n
    have := out_iff (-1000000000) 1000000000 n
    simp only [List.any_cons, List.any_nil, Bool.or_false] at this
    rw [← Bool.not_not (out _ _ n), this]; rfl
  simp only [List.any_cons, List.any_nil, Bool.or_false, h, V3.ok]
  by_cases h1 : inV v.a <;> by_cases h2 : inV v.b <;> by_cases h3 : inV v.c <;> simp [h1, h2, h3]

theorem ints1 {cur : Array Value} {o : Nat} {n : Int} (h : cur[o]? = some (.int .i64 n)) : IntsAt cur o [n] := by
  intro i x hx
  rcases i with _ | i
  · injection hx with hx; rw [← hx]; exact h
  · cases hx
theorem ints3 {cur : Array Value} {o : Nat} {v : V3} (h0 : cur[o]? = some (.int .i64 v.a)) (h1 : cur[o + 1]? = some (.int .i64 v.b)) (h2 : cur[o + 2]? = some (.int .i64 v.c)) : IntsAt cur o [v.a, v.b, v.c] := by
  intro i x hx
  rcases i with _ | _ | _ | i
  · injection hx with hx; rw [← hx]; exact h0
  · injection hx with hx; rw [← hx]; exact h1
  · injection hx with hx; rw [← hx]; exact h2
  · cases hx
theorem rw_within1 (g off cap : Nat) (lo hi : Int) (cur : Array Value) (T : TypeId) (z : Nat × Nat) (n : Int) (h : cur[off]? = some (.int .i64 n)) :
    DoesR Tryz.prog 132 #[.int .i64 lo, .int .i64 hi, .slice (some ⟨g, off, none⟩) 1 cap] [[(g, .cells cur T z)]] (.bool (decide (lo ≤ n ∧ n ≤ hi))) := by
  rw [← out_iff]; exact rw_within g off cap lo hi cur T z [n] (ints1 h) (by simp)
theorem rw_within3 (g off cap : Nat) (cur : Array Value) (T : TypeId) (z : Nat × Nat) (v : V3) (h : IntsAt cur off [v.a, v.b, v.c]) :
    DoesR Tryz.prog 132 #[.int .i64 (-1000000000), .int .i64 1000000000, .slice (some ⟨g, off, none⟩) 3 cap] [[(g, .cells cur T z)]] (.bool (decide v.ok)) := by
  rw [← out_v3]; exact rw_within g off cap _ _ cur T z [v.a, v.b, v.c] h (by simp)

theorem rw_half (c : Chg) (th : Bool) (v : V3) : DoesR Tryz.prog 97 #[.agg #[.int .i64 c.t, .int .i64 c.k, .bool c.had, .int .i64 c.o.a, .int .i64 c.o.b, .int .i64 c.o.c, .bool c.has, .int .i64 c.n.a, .int .i64 c.n.b, .int .i64 c.n.c], .bool th, .agg #[.int .i64 v.a, .int .i64 v.b, .int .i64 v.c]] [] (.tuple #[.agg #[.int .i64 (halfL c th v).t, .int .i64 (halfL c th v).k, .int .i64 (halfL c th v).v.a, .int .i64 (halfL c th v).v.b, .int .i64 (halfL c th v).v.c], .bool th]) := by
 refine spec_enter func97 rfl ntmps97 rfl ?_
 intro u R
 refine Zb [0, 1, 2] ?_
 refine Zq <| Zg <| Ze (w_box Y (cs := #[_, _, _, _, _, _, _, _, _, _]) rfl) ?_
 rintro _ _ ⟨b1, rfl, rfl⟩
 refine Ze (w_box Y (cs := #[_, _, _]) rfl) ?_
 rintro _ _ ⟨b2, rfl, rfl⟩
 refine Ze (w_alloc zeroValue67 (cs := #[_, _, _, _, _]) rfl) ?_
 rintro _ _ ⟨b3, rfl, rfl⟩
 refine Za Y <| Z0 <| Zx <| Zq <| Zq <| Zg <| Zm Y <| Zv (p_not Y) <| Z0 <| Zx ?_
 refine at_if_bool Y (fun hh => ?_) (fun hh => ?_)
 ·
  refine Zq <| Zg <| Zv (p_build (vs := []) (cs := #[_, _, _, _, _]) Y (run_build_struct (pl := #[(0, 1), (1, 1), (2, 3)]) zeroValue67 underlying67 (fun _ => by kernel_rfl) rfl)) ?_
  refine Xe (w_store_agg sizeOf67 Y Y (by (simp [Value.oneCell']; done)) Wu (by rfl) (by first | rfl | (simp; done)) Wn (by exact free_zero _)) ?_
  refine Za Y <| Z0 <| Zx <| at_ret <| Zt ?_
  refine nx_endct rfl results97 Y Wh (loadVar_agg isAgg67 sizeOf67 Wn (rfl)) Y (by simp only [Bool.not_eq_eq_eq_not, Bool.not_true, Bool.not_false] at hh; exact ⟨by (rw [half_f hh, hh]; rfl), rfl⟩)
 refine at_skip <| Zx <| Zq <| Zg <| Zh 0 underlying55 rfl rfl sizeOf3 Y <| Zl isAgg3 Y ?_
 refine Zh 1 underlying55 rfl rfl sizeOf3 Y <| Zl isAgg3 Y ?_
 refine Zo Wh (p_load_agg (cs := #[_, _, _]) isAgg53 sizeOf53 Y Wn (by rfl)) ?_
 refine Zv (p_build (vs := [(0, _), (1, _), (2, _)]) (cs := #[_, _, _, _, _]) Y (run_build_struct (pl := #[(0, 1), (1, 1), (2, 3)]) zeroValue67 underlying67 (fun _ => by kernel_rfl) rfl)) ?_
 refine Xe (w_store_agg sizeOf67 Y Y (by (simp [Value.oneCell', Value.cells]; done)) Wu (by rfl) (by first | rfl | (simp; done)) Wn (by exact free_zero _)) ?_
 refine Za Y <| Z0 <| Zn [6, 7] ?_
 refine Zx <| at_ret ?_
 refine nx_endct rfl results97 Y Wh (loadVar_agg isAgg67 sizeOf67 Wn (rfl)) Y (by simp only [Bool.not_eq_eq_eq_not, Bool.not_true, Bool.not_false] at hh; exact ⟨by (rw [half_t hh, hh]; rfl), rfl⟩)

theorem rw_valid (r : RowM) : DoesR Tryz.prog 112 #[.agg #[.int .i64 r.t, .int .i64 r.k, .int .i64 r.v.a, .int .i64 r.v.b, .int .i64 r.v.c]] [] (.bool (decide r.ok)) := by
 refine spec_enter func112 rfl ntmps112 rfl ?_
 intro u R
 refine Zb [0] ?_
 refine Zq <| Zg <| Ze (w_box Y (cs := #[_, _, _, _, _]) rfl) ?_
 rintro _ _ ⟨b1, rfl, rfl⟩
 refine Za Y <| Z0 <| Zx <| Zq <| Zg <| Zh 0 underlying67 rfl rfl sizeOf3 Y <| Zl isAgg3 Y ?_
 refine Ze (w_buildSlice (vs := [_]) (cs := [_]) underlying28 sizeOf3 zeroValue3 Y rfl rfl rfl rfl rfl) ?_
 rintro _ _ ⟨b2, rfl, rfl⟩
 refine Xr [_, _, _] Y call132 Y rfl (rw_within1 _ 0 1 _ _ _ _ _ r.t rfl) ?_
 refine Zm Y ?_
 refine ops_split (t := 7) Y rfl (fun hc1 => ?_) (fun hc1 => ?_)
 ·
  refine Yf 1 underlying67 rfl rfl sizeOf3 Y <| Yl isAgg3 Y ?_
  refine Ze (w_buildSlice (vs := [_]) (cs := [_]) underlying28 sizeOf3 zeroValue3 Y rfl rfl rfl rfl rfl) ?_
  rintro _ _ ⟨b3, rfl, rfl⟩
  refine Xr [_, _, _] Y call132 Y rfl (rw_within1 _ 0 1 _ _ _ _ _ r.k rfl) ?_
  refine Zv (p_pick_t Y Y) <| Zm Y ?_
  refine ops_split (t := 13) Y rfl (fun hc2 => ?_) (fun hc2 => ?_)
  ·
   refine Yf 2 underlying67 rfl rfl sizeOf53 Y <| Yg (p_slice_arr_all underlying53 sizeOf3 Y) <| Xr [_, _, _] Y call132 Y rfl (rw_within3 _ 2 3 _ _ _ r.v (ints3 rfl rfl rfl)) ?_
   refine Zv (p_pick_t Y Y) <| Za Y <| Z0 <| Zn [2] ?_
   refine Zx <| at_ret ?_
   refine nx_end1 rfl results112 Y (by exact ⟨by (simp_all [RowM.ok]; done), rfl⟩)
  refine op_skip Y rfl <| op_skip Y rfl <| op_skip Y rfl <| Zv (p_pick_f Y Y) <| Za Y <| Z0 <| Zn [2] ?_
  refine Zx <| at_ret ?_
  refine nx_end1 rfl results112 Y (by exact ⟨by (simp_all [RowM.ok]; done), rfl⟩)
 refine op_skip Y rfl <| op_skip Y rfl <| op_skip Y rfl <| op_skip Y rfl <| Zv (p_pick_f Y Y) <| Zm Y <| op_skip Y rfl <| op_skip Y rfl <| op_skip Y rfl <| Zv (p_pick_f Y Y) <| Za Y <| Z0 <| Zn [2] ?_
 refine Zx <| at_ret ?_
 refine nx_end1 rfl results112 Y (by exact ⟨by rw [decide_eq_false (fun h9 : r.ok => by have h91 := h9.2.1; have h92 := h9.2.2; omega)], rfl⟩)

theorem rw_sound (c : Chg) (th : Bool) (v : V3) : DoesR Tryz.prog 76 #[.agg #[.int .i64 c.t, .int .i64 c.k, .bool c.had, .int .i64 c.o.a, .int .i64 c.o.b, .int .i64 c.o.c, .bool c.has, .int .i64 c.n.a, .int .i64 c.n.b, .int .i64 c.n.c], .bool th, .agg #[.int .i64 v.a, .int .i64 v.b, .int .i64 v.c]] [] (.bool (if th then decide (halfL c th v).ok else decide (v = V3.zero))) := by
 refine spec_enter func76 rfl ntmps76 rfl ?_
 intro u R
 refine Zb [0, 1, 2] ?_
 refine Zq <| Zg <| Ze (w_box Y (cs := #[_, _, _, _, _, _, _, _, _, _]) rfl) ?_
 rintro _ _ ⟨b1, rfl, rfl⟩
 refine Ze (w_box Y (cs := #[_, _, _]) rfl) ?_
 rintro _ _ ⟨b2, rfl, rfl⟩
 refine Za Y <| Z0 <| Zx <| Zq <| Zg <| Zo Wh (p_load_agg (cs := #[_, _, _, _, _, _, _, _, _, _]) isAgg55 sizeOf55 Y Wn (by rfl)) ?_
 refine Zm Y <| Zo Wh (p_load_agg (cs := #[_, _, _]) isAgg53 sizeOf53 Y Wn (by rfl)) ?_
 refine Xr [_, _, _] Y call97 Y rfl (rw_half c th v) ?_
 refine Zm Y <| Zd Y rfl <| Zd Y rfl <| Ze (w_alloc zeroValue67 (cs := #[_, _, _, _, _]) rfl) ?_
 rintro _ _ ⟨b3, rfl, rfl⟩
 refine Xe (w_store_agg sizeOf67 Y Y (by (simp [Value.oneCell']; done)) Wu (by rfl) (by first | rfl | (simp; done)) Wn (by exact free_zero _)) ?_
 refine Za Y <| Z0 <| Zn [1, 5, 7] ?_
 refine Zx <| Zq <| Zg <| Zm Y <| Zm Y ?_
 refine ops_split_bool (t := 17) Y rfl (fun hc1 => ?_) (fun hc1 => ?_)
 ·
  refine op_rg Y Wh (p_load_agg (cs := #[_, _, _, _, _]) isAgg67 sizeOf67 Y Wn (by rfl)) rfl rfl ?_
  refine Xr [_] Y call112 Y rfl (rw_valid _) ?_
  refine Zv (p_pick_t Y Y) <| Zm Y ?_
  refine ops_split (t := 21) Y rfl (fun hc2 => ?_) (fun hc2 => ?_)
  ·
   refine op_skip Y rfl <| op_skip Y rfl <| op_skip Y rfl <| op_skip Y rfl <| op_skip Y rfl <| op_skip Y rfl <| op_skip Y rfl <| Zv (p_pick_t Y Y) <| Za Y <| Z0 <| Zn [6] ?_
   refine Zx <| at_ret ?_
   refine nx_end1 rfl results76 Y (by exact ⟨by simp_all, rfl⟩)
  refine Zf Y Y <| Yg (p_not Y) <| Zf Y Y ?_
  refine ops_split_bool (t := 24) Y rfl (fun hc3 => ?_) (fun hc3 => ?_)
  ·
   refine op_rg Y Wh (p_load_agg (cs := #[_, _, _]) isAgg53 sizeOf53 Y Wn (by rfl)) rfl rfl ?_
   refine Yg (p_build (vs := []) (cs := #[_, _, _]) Y (run_build_array zeroValue53 underlying53 sizeOf3 rfl)) ?_
   refine Yg (p_eql_arr3z (by kernel_rfl) underlying53 underlying3 isAgg3 sizeOf3 Y Y) ?_
   refine Yg (p_pick_t Y Y) <| Zv (p_pick_f Y Y) <| Za Y <| Z0 <| Zn [6] ?_
   refine Zx <| at_ret ?_
   refine nx_end1 rfl results76 Y (by exact ⟨by simp_all, rfl⟩)
  refine op_skip Y rfl <| op_skip Y rfl <| op_skip Y rfl <| Yg (p_pick_f Y Y) <| Zv (p_pick_f Y Y) <| Za Y <| Z0 <| Zn [6] ?_
  refine Zx <| at_ret ?_
  refine nx_end1 rfl results76 Y (by exact ⟨by simp_all, rfl⟩)
 refine op_skip Y rfl <| op_skip Y rfl <| Zv (p_pick_f Y Y) <| Zm Y <| Zf Y Y <| Yg (p_not Y) <| Zf Y Y ?_
 refine ops_split_bool (t := 24) Y rfl (fun hc4 => ?_) (fun hc4 => ?_)
 ·
  refine op_rg Y Wh (p_load_agg (cs := #[_, _, _]) isAgg53 sizeOf53 Y Wn (by rfl)) rfl rfl ?_
  refine Yg (p_build (vs := []) (cs := #[_, _, _]) Y (run_build_array zeroValue53 underlying53 sizeOf3 rfl)) ?_
  refine Yg (p_eql_arr3z (by kernel_rfl) underlying53 underlying3 isAgg3 sizeOf3 Y Y) ?_
  refine Yg (p_pick_t Y Y) <| Zv (p_pick_f Y Y) <| Za Y <| Z0 <| Zn [6] ?_
  refine Zx <| at_ret ?_
  refine nx_end1 rfl results76 Y (by exact ⟨by simp_all, rfl⟩)
 refine op_skip Y rfl <| op_skip Y rfl <| op_skip Y rfl <| Yg (p_pick_f Y Y) <| Zv (p_pick_f Y Y) <| Za Y <| Z0 <| Zn [6] ?_
 refine Zx <| at_ret ?_
 refine nx_end1 rfl results76 Y (by exact ⟨by simp_all, rfl⟩)

end Go.Proofs.YtkgmgmkbgnkdnaaGreatDoor

namespace Go.Proofs.YtkgmgmkbgnkdnaaGreatDoor
open Go.Proofs.Tryz
open Go Go.RowKit Gw
set_option linter.unusedVariables false
set_option linter.unusedSimpArgs false
set_option maxRecDepth 100000
attribute [local irreducible] Gw.At Gw.Nx Gw.Ops
def sndB (c : Chg) : Bool := if c.had then decide c.before.ok else decide (c.o = V3.zero)
def sndA (c : Chg) : Bool := if c.has then decide c.after.ok else decide (c.n = V3.zero)
theorem rw_sound_b (c : Chg) : DoesR Tryz.prog 76 #[.agg #[.int .i64 c.t, .int .i64 c.k, .bool c.had, .int .i64 c.o.a, .int .i64 c.o.b, .int .i64 c.o.c, .bool c.has, .int .i64 c.n.a, .int .i64 c.n.b, .int .i64 c.n.c], .bool c.had, .agg #[.int .i64 c.o.a, .int .i64 c.o.b, .int .i64 c.o.c]] [] (.bool (sndB c)) := rw_sound c c.had c.o
theorem rw_sound_a (c : Chg) : DoesR Tryz.prog 76 #[.agg #[.int .i64 c.t, .int .i64 c.k, .bool c.had, .int .i64 c.o.a, .int .i64 c.o.b, .int .i64 c.o.c, .bool c.has, .int .i64 c.n.a, .int .i64 c.n.b, .int .i64 c.n.c], .bool c.has, .agg #[.int .i64 c.n.a, .int .i64 c.n.b, .int .i64 c.n.c]] [] (.bool (sndA c)) := rw_sound c c.has c.n
theorem chg_ok_snd {c : Chg} (hne : c.had ≠ c.has ∨ (c.had = true ∧ c.o ≠ c.n)) : decide c.ok = (sndB c && sndA c) := by
  unfold sndB sndA
  cases h1 : c.had <;> cases h2 : c.has <;> simp_all [Chg.ok]
  all_goals (by_cases h3 : c.before.ok <;> by_cases h4 : c.after.ok <;> by_cases h5 : c.o = V3.zero <;> by_cases h6 : c.n = V3.zero <;> simp_all)
theorem chg_no {c : Chg} (h : c.had = c.has) (h2 : c.had = true → c.o = c.n) : decide c.ok = false := by
  cases h1 : c.had <;> simp_all [Chg.ok]
  all_goals (rw [← h] at *; simp_all)

set_option maxHeartbeats 4000000 in
theorem rw_validc (c : Chg) : DoesR Tryz.prog 40 #[.agg #[.int .i64 c.t, .int .i64 c.k, .bool c.had, .int .i64 c.o.a, .int .i64 c.o.b, .int .i64 c.o.c, .bool c.has, .int .i64 c.n.a, .int .i64 c.n.b, .int .i64 c.n.c]] [] (.bool (decide c.ok)) := by
 refine spec_enter func40 rfl ntmps40 rfl ?_
 intro u R
 refine Zb [0] ?_
 refine Zq <| Zg <| Ze (w_box Y (cs := #[_, _, _, _, _, _, _, _, _, _]) rfl) ?_
 rintro _ _ ⟨b1, rfl, rfl⟩
 refine Za Y <| Z0 <| Zx <| Zq <| Zg <| Zh 2 underlying55 rfl rfl sizeOf4 Y <| Zl isAgg4 Y ?_
 refine Zh 6 underlying55 rfl rfl sizeOf4 Y <| Zl isAgg4 Y ?_
 refine Zv (p_neq_bool underlying4 Y Y) <| Zm Y ?_
 refine ops_split (t := 9) Y rfl (fun hc1 => ?_) (fun hc1 => ?_)
 ·
  refine op_skip Y rfl <| op_skip Y rfl <| op_skip Y rfl <| op_skip Y rfl <| op_skip Y rfl <| op_skip Y rfl <| op_skip Y rfl <| op_skip Y rfl <| op_skip Y rfl <| Zv (p_pick_t Y Y) <| Za Y <| Z0 <| Zn [1, 3] ?_
  refine Zx <| Zq <| Zg <| Zm Y <| Zm Y <| op_rg Y Wh (p_load_agg (cs := #[_, _, _, _, _, _, _, _, _, _]) isAgg55 sizeOf55 Y Wn (by rfl)) rfl rfl ?_
  refine Yf 2 underlying55 rfl rfl sizeOf4 Y <| Yl isAgg4 Y ?_
  refine Yf 3 underlying55 rfl rfl sizeOf53 Y <| op_rg Y Wh (p_load_agg (cs := #[_, _, _]) isAgg53 sizeOf53 Y Wn (by rfl)) rfl rfl ?_
  refine Xr [_, _, _] Y call76 Y rfl (rw_sound_b c) ?_
  refine Zv (p_pick_t Y Y) <| Zm Y ?_
  refine ops_split_bool (t := 29) Y rfl (fun hc2 => ?_) (fun hc2 => ?_)
  ·
   refine op_rg Y Wh (p_load_agg (cs := #[_, _, _, _, _, _, _, _, _, _]) isAgg55 sizeOf55 Y Wn (by rfl)) rfl rfl ?_
   refine Yf 6 underlying55 rfl rfl sizeOf4 Y <| Yl isAgg4 Y ?_
   refine Yf 7 underlying55 rfl rfl sizeOf53 Y <| op_rg Y Wh (p_load_agg (cs := #[_, _, _]) isAgg53 sizeOf53 Y Wn (by rfl)) rfl rfl ?_
   refine Xr [_, _, _] Y call76 Y rfl (rw_sound_a c) ?_
   refine Zv (p_pick_t Y Y) <| Za Y <| Z0 <| Zn [2] ?_
   refine Zx <| at_ret ?_
   refine nx_end1 rfl results40 Y (by exact ⟨by rw [chg_ok_snd (.inl hc1), hc2, Bool.true_and], rfl⟩)
  refine op_skip Y rfl <| op_skip Y rfl <| op_skip Y rfl <| op_skip Y rfl <| op_skip Y rfl <| op_skip Y rfl <| Zv (p_pick_f Y Y) <| Za Y <| Z0 <| Zn [2] ?_
  refine Zx <| at_ret ?_
  refine nx_end1 rfl results40 Y (by exact ⟨by rw [chg_ok_snd (.inl hc1), hc2, Bool.false_and], rfl⟩)
 refine Yf 2 underlying55 rfl rfl sizeOf4 Y <| Yl isAgg4 Y ?_
 refine Zf Y Y ?_
 refine ops_split_bool (t := 12) Y rfl (fun hc3 => ?_) (fun hc3 => ?_)
 ·
  refine Yf 3 underlying55 rfl rfl sizeOf53 Y <| op_rg Y Wh (p_load_agg (cs := #[_, _, _]) isAgg53 sizeOf53 Y Wn (by rfl)) rfl rfl ?_
  refine Yf 7 underlying55 rfl rfl sizeOf53 Y <| op_rg Y Wh (p_load_agg (cs := #[_, _, _]) isAgg53 sizeOf53 Y Wn (by rfl)) rfl rfl ?_
  refine Yg (p_neq_arr3 (by kernel_rfl) underlying53 underlying3 isAgg3 sizeOf3 Y Y) ?_
  refine Yg (p_pick_t Y Y) <| Zv (p_pick_f Y Y) <| Za Y <| Z0 <| Zn [1, 3] ?_
  refine Zx <| Zq <| Zg <| Zm Y <| Zm Y ?_
  refine ops_split (t := 21) Y rfl (fun hc4 => ?_) (fun hc4 => ?_)
  ·
   refine op_rg Y Wh (p_load_agg (cs := #[_, _, _, _, _, _, _, _, _, _]) isAgg55 sizeOf55 Y Wn (by rfl)) rfl rfl ?_
   refine Yf 2 underlying55 rfl rfl sizeOf4 Y <| Yl isAgg4 Y ?_
   refine Yf 3 underlying55 rfl rfl sizeOf53 Y <| op_rg Y Wh (p_load_agg (cs := #[_, _, _]) isAgg53 sizeOf53 Y Wn (by rfl)) rfl rfl ?_
   refine Xr [_, _, _] Y call76 Y rfl (rw_sound_b c) ?_
   refine Zv (p_pick_t Y Y) <| Zm Y ?_
   refine ops_split_bool (t := 29) Y rfl (fun hc5 => ?_) (fun hc5 => ?_)
   ·
    refine op_rg Y Wh (p_load_agg (cs := #[_, _, _, _, _, _, _, _, _, _]) isAgg55 sizeOf55 Y Wn (by rfl)) rfl rfl ?_
    refine Yf 6 underlying55 rfl rfl sizeOf4 Y <| Yl isAgg4 Y ?_
    refine Yf 7 underlying55 rfl rfl sizeOf53 Y <| op_rg Y Wh (p_load_agg (cs := #[_, _, _]) isAgg53 sizeOf53 Y Wn (by rfl)) rfl rfl ?_
    refine Xr [_, _, _] Y call76 Y rfl (rw_sound_a c) ?_
    refine Zv (p_pick_t Y Y) <| Za Y <| Z0 <| Zn [2] ?_
    refine Zx <| at_ret ?_
    refine nx_end1 rfl results40 Y (by exact ⟨by rw [chg_ok_snd (.inr ⟨hc3, hc4⟩), hc5, Bool.true_and], rfl⟩)
   refine op_skip Y rfl <| op_skip Y rfl <| op_skip Y rfl <| op_skip Y rfl <| op_skip Y rfl <| op_skip Y rfl <| Zv (p_pick_f Y Y) <| Za Y <| Z0 <| Zn [2] ?_
   refine Zx <| at_ret ?_
   refine nx_end1 rfl results40 Y (by exact ⟨by rw [chg_ok_snd (.inr ⟨hc3, hc4⟩), hc5, Bool.false_and], rfl⟩)
  refine op_skip Y rfl <| op_skip Y rfl <| op_skip Y rfl <| op_skip Y rfl <| op_skip Y rfl <| op_skip Y rfl <| Zv (p_pick_f Y Y) <| Zm Y <| op_skip Y rfl <| op_skip Y rfl <| op_skip Y rfl <| op_skip Y rfl <| op_skip Y rfl <| op_skip Y rfl <| Zv (p_pick_f Y Y) <| Za Y <| Z0 <| Zn [2] ?_
  refine Zx <| at_ret ?_
  refine nx_end1 rfl results40 Y (by exact ⟨by rw [chg_no (Classical.not_not.1 hc1) (fun _ => Classical.not_not.1 hc4)], rfl⟩)
 refine op_skip Y rfl <| op_skip Y rfl <| op_skip Y rfl <| op_skip Y rfl <| op_skip Y rfl <| Yg (p_pick_f Y Y) <| Zv (p_pick_f Y Y) <| Za Y <| Z0 <| Zn [1, 3] ?_
 refine Zx <| Zq <| Zg <| Zm Y <| Zm Y <| op_skip Y rfl <| op_skip Y rfl <| op_skip Y rfl <| op_skip Y rfl <| op_skip Y rfl <| op_skip Y rfl <| Zv (p_pick_f Y Y) <| Zm Y <| op_skip Y rfl <| op_skip Y rfl <| op_skip Y rfl <| op_skip Y rfl <| op_skip Y rfl <| op_skip Y rfl <| Zv (p_pick_f Y Y) <| Za Y <| Z0 <| Zn [2] ?_
 refine Zx <| at_ret ?_
 refine nx_end1 rfl results40 Y (by exact ⟨by rw [chg_no (Classical.not_not.1 hc1) (fun h9 => by rw [hc3] at h9; cases h9)], rfl⟩)

theorem chg_t {c : Chg} (h : c.ok) : 0 ≤ c.t := by
  obtain ⟨h1, h2, _, _⟩ := h
  have hb : c.had = true → c.before.ok := fun h9 => Classical.byContradiction fun hn => h2 (.inl ⟨h9, hn⟩)
  have ha : c.has = true → c.after.ok := fun h9 => Classical.byContradiction fun hn => h2 (.inr ⟨h9, hn⟩)
  cases e1 : c.had with
  | true => have := (hb e1).2.1.1; rw [before_t e1] at this; exact this
  | false =>
    cases e2 : c.has with
    | true => have := (ha e2).2.1.1; rw [after_t e2] at this; exact this
    | false => exact absurd (.inl ⟨by simp [e1], by simp [e2]⟩) h1
theorem last_lt {p : Int} {cs : List Chg} {i : Nat} {x y : Chg} (hl : i = 0 ∧ y.t = -1 ∨ 0 < i ∧ cs[i - 1]? = some y) (h : RecOk p cs) (hx : cs[i]? = some x) : y.lt x := by
  rcases hl with ⟨h0, h1⟩ | ⟨h0, h1⟩
  · left; have := chg_t (h.all i x hx); omega
  · exact h.ord (i - 1) y x h1 (by rw [show i - 1 + 1 = i by omega]; exact hx)
theorem last_ex {cs : List Chg} {i : Nat} {x y : Chg} (hl : i = 0 ∧ y.t = -1 ∨ 0 < i ∧ cs[i - 1]? = some y) (h : y.lt x) : i = 0 ∨ ∃ y, cs[i - 1]? = some y ∧ y.lt x := by
  rcases hl with ⟨h0, h1⟩ | ⟨h0, h1⟩
  · exact .inl h0
  · exact .inr ⟨y, h1, h⟩

theorem rw_validr (p : Int) (q : Option Addr) (cap : Nat) (cs : List Chg) (M : List Chunk) (hO : ChgsIn M (.slice q cs.length cap) cs) : DoesR Tryz.prog 96 #[.agg #[.int .i64 p, .slice q cs.length cap]] [M] (.bool (decide (RecOk p cs))) := by
 have hml : maxLen = 9223372036854775807 := rfl
 obtain ⟨p9, cap9, e9, hol, hg⟩ := hO
 injection e9 with e91 e92 e93
 subst e91 e93
 refine spec_enter func96 rfl ntmps96 rfl ?_
 intro u R
 refine Zb [0] ?_
 refine Zq <| Zg <| Ze (w_box Y (cs := #[_, _]) rfl) ?_
 rintro _ _ ⟨b1, rfl, rfl⟩
 refine Za Y <| Z0 <| Zx <| Zq <| Zq <| Zg <| Zh 0 underlying51 rfl rfl sizeOf3 Y <| Zl isAgg3 Y ?_
 refine Ze (w_buildSlice (vs := [_]) (cs := [_]) underlying28 sizeOf3 zeroValue3 Y rfl rfl rfl rfl rfl) ?_
 rintro _ _ ⟨b2, rfl, rfl⟩
 refine Xr [_, _, _] Y call132 Y rfl (rw_within1 _ 0 1 _ _ _ _ _ p rfl) ?_
 refine Zv (p_not_dec Y) <| Zm Y ?_
 refine ops_split (t := 11) Y rfl (fun hp => ?_) (fun hp => ?_)
 ·
  refine op_skip Y rfl <| op_skip Y rfl <| op_skip Y rfl <| op_skip Y rfl <| op_skip Y rfl <| op_skip Y rfl <| Zv (p_pick_t Y Y) <| Z0 <| Zn [1, 18] ?_
  refine Zx <| at_then Y <| Zq <| Zg <| Za Y <| Z0 <| Zx <| at_ret <| Zt ?_
  refine nx_end1 rfl results96 Y (by exact ⟨by rw [decide_eq_false (fun h9 : RecOk p cs => by have h91 := h9.pos; have h92 := h9.len; first | exact hp h91 | (apply hl; omega))], rfl⟩)
 refine Yf 1 underlying51 rfl rfl sizeOf49 Y <| Yl isAgg49 Y ?_
 refine Yg (p_len_slice underlying49 Y) <| Ze (w_buildSlice (vs := [_]) (cs := [_]) underlying28 sizeOf3 zeroValue3 Y rfl rfl rfl rfl rfl) ?_
 rintro _ _ ⟨b3, rfl, rfl⟩
 refine Xr [_, _, _] Y call132 Y rfl (rw_within1 _ 0 1 _ _ _ _ _ (cs.length : Int) rfl) ?_
 refine Yg (p_not_dec Y) <| Zv (p_pick_f Y Y) <| Z0 <| Zn [1, 18] ?_
 refine Zx ?_
 refine at_if Y (fun hl => ?_) (fun hl => ?_)
 ·
  refine Zq <| Zg <| Za Y <| Z0 <| Zx <| at_ret <| Zt ?_
  refine nx_end1 rfl results96 Y (by exact ⟨by rw [decide_eq_false (fun h9 : RecOk p cs => by have h91 := h9.pos; have h92 := h9.len; first | exact hp h91 | (apply hl; omega))], rfl⟩)
 refine at_skip <| Zx <| Zq <| Zg <| Zv (p_build (vs := [(0, _)]) (cs := #[_, _, _, _, _, _, _, _, _, _]) Y (run_build_struct (pl := #[(0, 1), (1, 1), (2, 1), (3, 3), (6, 1), (7, 3)]) zeroValue55 underlying55 (fun _ => by kernel_rfl) rfl)) ?_
 refine Ze (w_alloc zeroValue55 (cs := #[_, _, _, _, _, _, _, _, _, _]) rfl) ?_
 rintro _ _ ⟨lb, rfl, rfl⟩
 refine Xe (w_store_agg sizeOf55 Y Y (by (simp [Value.oneCell', Value.cells]; done)) Wu (by rfl) (by first | rfl | (simp; done)) Wn (by exact free_zero _)) ?_
 refine Z0 <| Zx <| Zq <| Zq <| Zg <| Zh 1 underlying51 rfl rfl sizeOf49 Y <| Zl isAgg49 Y ?_
 refine Zv (p_len_slice underlying49 Y) <| Zm Y <| Z0 <| Zx <| at_block <| Zb [23, 3, 21, 22] ?_
 refine at_loopB (e0 := [(23, _)]) (H0 := _) (n := _) (fun m e H => ∃ (i : Nat) (y : Chg), m = cs.length - i ∧ (i ≤ cs.length ∧ (∀ (j : Nat) (c : Chg), j < i → cs[j]? = some c → c.ok) ∧ (∀ (j : Nat) (b c : Chg), j + 1 < i → cs[j]? = some b → cs[j + 1]? = some c → b.lt c) ∧ (i = 0 ∧ y.t = -1 ∨ 0 < i ∧ cs[i - 1]? = some y)) ∧ e = [(23, .int .i64 (i : Int))] ∧ H = [[(lb, .cells #[.int .i64 y.t, .int .i64 y.k, .bool y.had, .int .i64 y.o.a, .int .i64 y.o.b, .int .i64 y.o.c, .bool y.has, .int .i64 y.n.a, .int .i64 y.n.b, .int .i64 y.n.c] 55 (0, 0))]]) (by exact ⟨0, ⟨-1, 0, false, V3.zero, false, V3.zero⟩, rfl, ⟨by omega, by intro j c hj; omega, by intro j b c hj; omega, .inl ⟨rfl, rfl⟩⟩, rfl, rfl⟩) Wp ?_
 rintro _ _ _ ⟨i, y, rfl, ⟨hi, hall, hord, hlast⟩, rfl, rfl⟩
 refine Zq <| Zg <| Zv (p_lss_nat Y Y) <| Z0 <| Zx <| Zq ?_
 refine at_if Y (fun hlt => ?_) (fun hlt => ?_)
 ·
  obtain ⟨x, hx⟩ : ∃ x, cs[i]? = some x := ⟨_, List.getElem?_eq_getElem hlt⟩
  obtain ⟨g, off, cur, T, zz, rfl, hm, hsz, hex⟩ := hg i x hx
  refine at_skip <| Zx <| Zq <| at_block <| Zq <| Zg ?_
  (refine op_v (p_indexAddr_nat underlying49 sizeOf55 Y Y ?_) ?_; (focus (first | omega | decide | (simp; done))))
  refine op_rm (cs := [(g, .cells cur T zz)]) (by simp [hm]) (p_load_agg (cs := #[.int .i64 x.t, .int .i64 x.k, .bool x.had, .int .i64 x.o.a, .int .i64 x.o.b, .int .i64 x.o.c, .bool x.has, .int .i64 x.n.a, .int .i64 x.n.b, .int .i64 x.n.c]) isAgg55 sizeOf55 Y (by omega) hex) rfl rfl ?_
  refine Ze (w_alloc zeroValue55 (cs := #[_, _, _, _, _, _, _, _, _, _]) rfl) ?_
  rintro _ _ ⟨b5, rfl, rfl⟩
  refine Xe (w_store_agg sizeOf55 Y Y (by (simp [Value.oneCell']; done)) Wu (by rfl) (by first | rfl | (simp; done)) Wb (by exact free_zero _)) ?_
  refine Z0 <| Zx <| Zq <| Zq <| Zg <| Zo Wh (p_load_agg (cs := #[_, _, _, _, _, _, _, _, _, _]) isAgg55 sizeOf55 Y Wn (by rfl)) ?_
  refine Xr [_] Y call40 Y rfl (rw_validc x) ?_
  refine Zv (p_not_dec Y) <| Zm Y ?_
  refine ops_split (t := 30) Y rfl (fun hg1 => ?_) (fun hg1 => ?_)
  ·
   refine op_skip Y rfl <| op_skip Y rfl <| op_skip Y rfl <| op_skip Y rfl <| op_skip Y rfl <| Zv (p_pick_t Y Y) <| Zm Y <| op_skip Y rfl <| op_skip Y rfl <| op_skip Y rfl <| op_skip Y rfl <| op_skip Y rfl <| op_skip Y rfl <| op_skip Y rfl <| op_skip Y rfl <| op_skip Y rfl <| op_skip Y rfl <| op_skip Y rfl <| op_skip Y rfl <| Zv (p_pick_t Y Y) <| Z0 <| Zn [3, 5, 21, 22, 23, 50] ?_
   refine Zx <| at_then Y <| Zq <| Zg <| Za Y <| Z0 <| Zx <| at_ret <| Zt <| nx_block_ret <| Zt <| Zt <| nx_block_ret <| Zt ?_
   refine nx_end1 rfl results96 Y (by exact ⟨by rw [decide_eq_false (fun h9 : RecOk p cs => by have h91 := last_lt hlast h9 hx; have h92 := h9.all i x hx; unfold Chg.lt at h91; first | exact hg1 h92 | omega)], rfl⟩)
  refine Yf 0 underlying55 rfl rfl sizeOf3 Y <| Yl isAgg3 Y ?_
  refine Yf 0 underlying55 rfl rfl sizeOf3 Y <| Yl isAgg3 Y ?_
  refine Yg (p_lss Y Y) <| Zv (p_pick_f Y Y) <| Zm Y ?_
  refine ops_split (t := 37) Y rfl (fun hg2 => ?_) (fun hg2 => ?_)
  ·
   refine op_skip Y rfl <| op_skip Y rfl <| op_skip Y rfl <| op_skip Y rfl <| op_skip Y rfl <| op_skip Y rfl <| op_skip Y rfl <| op_skip Y rfl <| op_skip Y rfl <| op_skip Y rfl <| op_skip Y rfl <| op_skip Y rfl <| Zv (p_pick_t Y Y) <| Z0 <| Zn [3, 5, 21, 22, 23, 50] ?_
   refine Zx <| at_then Y <| Zq <| Zg <| Za Y <| Z0 <| Zx <| at_ret <| Zt <| nx_block_ret <| Zt <| Zt <| nx_block_ret <| Zt ?_
   refine nx_end1 rfl results96 Y (by exact ⟨by rw [decide_eq_false (fun h9 : RecOk p cs => by have h91 := last_lt hlast h9 hx; have h92 := h9.all i x hx; unfold Chg.lt at h91; first | exact hg1 h92 | omega)], rfl⟩)
  refine Yf 0 underlying55 rfl rfl sizeOf3 Y <| Yl isAgg3 Y ?_
  refine Yf 0 underlying55 rfl rfl sizeOf3 Y <| Yl isAgg3 Y ?_
  refine Yg (p_eql Y Y) <| Zf Y Y ?_
  refine ops_split (t := 43) Y rfl (fun hg3 => ?_) (fun hg3 => ?_)
  ·
   refine Yf 1 underlying55 rfl rfl sizeOf3 Y <| Yl isAgg3 Y ?_
   refine Yf 1 underlying55 rfl rfl sizeOf3 Y <| Yl isAgg3 Y ?_
   refine Yg (p_leq Y Y) <| Yg (p_pick_t Y Y) <| Zv (p_pick_f Y Y) <| Z0 <| Zn [3, 5, 21, 22, 23, 50] ?_
   refine Zx ?_
   refine at_if Y (fun ho => ?_) (fun ho => ?_)
   ·
    refine Zq <| Zg <| Za Y <| Z0 <| Zx <| at_ret <| Zt <| nx_block_ret <| Zt <| Zt <| nx_block_ret <| Zt ?_
    refine nx_end1 rfl results96 Y (by exact ⟨by rw [decide_eq_false (fun h9 : RecOk p cs => by have h91 := last_lt hlast h9 hx; have h92 := h9.all i x hx; unfold Chg.lt at h91; first | exact hg1 h92 | omega)], rfl⟩)
   refine at_skip <| Zx <| Zg <| Zo Wh (p_load_agg (cs := #[.int .i64 x.t, .int .i64 x.k, .bool x.had, .int .i64 x.o.a, .int .i64 x.o.b, .int .i64 x.o.c, .bool x.has, .int .i64 x.n.a, .int .i64 x.n.b, .int .i64 x.n.c]) isAgg55 sizeOf55 Y Wn (by rfl)) ?_
   refine Xe (w_store_agg sizeOf55 Y Y (by (simp [Value.oneCell']; done)) Wu (by rfl) (by first | rfl | (simp; done)) Wn (by exact free_zero _)) ?_
   refine Z0 <| nx_block_normal <| Zx <| Zg <| Ya (n := 1) Y Y <| Zm Y <| Z0 <| Zn [23, 3, 21, 22] ?_
   refine nx_againB (e' := [(23, _)]) (m := _) (H' := _) (by exact ⟨i + 1, x, rfl, ⟨by omega, all_more hall hx (Classical.not_not.1 hg1), ord_more hord hx (last_ex hlast (by unfold Chg.lt; omega)), .inr ⟨by omega, hx⟩⟩, rfl, rfl⟩)
  refine op_skip Y rfl <| op_skip Y rfl <| op_skip Y rfl <| op_skip Y rfl <| op_skip Y rfl <| Yg (p_pick_f Y Y) <| Zv (p_pick_f Y Y) <| Z0 <| Zn [3, 5, 21, 22, 23, 50] ?_
  refine Zx <| at_else Y <| at_skip <| Zx <| Zg <| Zo Wh (p_load_agg (cs := #[.int .i64 x.t, .int .i64 x.k, .bool x.had, .int .i64 x.o.a, .int .i64 x.o.b, .int .i64 x.o.c, .bool x.has, .int .i64 x.n.a, .int .i64 x.n.b, .int .i64 x.n.c]) isAgg55 sizeOf55 Y Wn (by rfl)) ?_
  refine Xe (w_store_agg sizeOf55 Y Y (by (simp [Value.oneCell']; done)) Wu (by rfl) (by first | rfl | (simp; done)) Wn (by exact free_zero _)) ?_
  refine Z0 <| nx_block_normal <| Zx <| Zg <| Ya (n := 1) Y Y <| Zm Y <| Z0 <| Zn [23, 3, 21, 22] ?_
  refine nx_againB (e' := [(23, _)]) (m := _) (H' := _) (by exact ⟨i + 1, x, rfl, ⟨by omega, all_more hall hx (Classical.not_not.1 hg1), ord_more hord hx (last_ex hlast (by unfold Chg.lt; omega)), .inr ⟨by omega, hx⟩⟩, rfl, rfl⟩)
 refine at_exit <| Zt <| Zt <| nx_block_exit <| Zx <| Zq <| Zg <| Za Y <| Z0 <| Zx <| at_ret ?_
 refine nx_end1 rfl results96 Y (by exact ⟨by rw [decide_eq_true (⟨by omega, by omega, fun j c hc => hall j c (by have := (List.getElem?_eq_some_iff.1 hc).1; omega) hc, fun j b c hb hc => hord j b c (by have := (List.getElem?_eq_some_iff.1 hc).1; omega) hb hc⟩ : RecOk p cs)], rfl⟩)

end Go.Proofs.YtkgmgmkbgnkdnaaGreatDoor

namespace Go.Proofs.YtkgmgmkbgnkdnaaGreatDoor
open Go.Proofs.Tryz
open Go Go.RowKit Gw
set_option linter.unusedVariables false
set_option linter.unusedSimpArgs false
set_option maxRecDepth 100000
attribute [local irreducible] Gw.At Gw.Nx Gw.Ops
def putAll (ls : List Int) : List UInt8 := ls.flatMap encI
theorem putAll_len : ∀ (ls : List Int), (∀ n ∈ ls, -4611686018427387903 ≤ n ∧ n ≤ 4611686018427387903) → (putAll ls).length ≤ ls.length * 9
  | [], _ => by simp [putAll]
  | n :: ls, h => by
    have h1 := putAll_len ls (fun m hm => h m (by simp [hm]))
    have h2 := encI_len n (h n (by simp)).1 (h n (by simp)).2
    unfold putAll at *
    rw [List.flatMap_cons, List.length_append, List.length_cons]; omega
theorem putAll_snoc (ls : List Int) (n : Int) : putAll (ls ++ [n]) = putAll ls ++ encI n := by simp [putAll]

theorem rw_put (g off cap : Nat) (cur : Array Value) (T : TypeId) (z : Nat × Nat) (ls : List Int) (hin : IntsAt cur off ls) (hn : ls.length ≤ 1073741824) (hr : ∀ n ∈ ls, -4611686018427387903 ≤ n ∧ n ≤ 4611686018427387903) :
    DoesR Tryz.prog 133 #[.slice (some ⟨g, off, none⟩) ls.length cap] [[(g, .cells cur T z)]] (.string (str (putAll ls))) := by
 have hml : maxLen = 9223372036854775807 := rfl
 refine spec_enter func133 rfl ntmps133 rfl ?_
 intro u R
 refine Zb [0] ?_
 refine Zq <| Zg <| Za Y <| Z0 <| Zx <| Zq <| Zg <| Za Y <| Z0 <| Zx <| Zq <| Zq <| Zg <| Zm Y <| Zv (p_len_slice underlying28 Y) <| Zm Y <| Z0 <| Zx <| at_block <| Zb [3, 10, 8, 9] ?_
 refine at_loopB (e0 := [(3, _), (10, _)]) (H0 := _) (n := _) (fun m e H => ∃ (i : Nat), m = ls.length - i ∧ (i ≤ ls.length) ∧ e = [(3, .string (str (putAll (ls.take i)))), (10, .int .i64 (i : Int))] ∧ H = []) (by exact ⟨0, rfl, Nat.zero_le _, rfl, rfl⟩) Wp ?_
 rintro _ _ _ ⟨i, rfl, hi, rfl, rfl⟩
 refine Zq <| Zg <| Zv (p_lss_nat Y Y) <| Z0 <| Zx <| Zq ?_
 refine at_if Y (fun hlt => ?_) (fun hlt => ?_)
 ·
  obtain ⟨x, hx⟩ : ∃ x, ls[i]? = some x := ⟨_, List.getElem?_eq_getElem hlt⟩
  have hxr := hr x (List.mem_of_getElem? hx)
  have htk : ls.take (i + 1) = ls.take i ++ [x] := by rw [List.take_add_one, hx]; rfl
  have hpl := putAll_len (ls.take i) (fun m hm => hr m (List.mem_of_mem_take hm))
  have htl : (ls.take i).length ≤ i := List.length_take_le ..
  have hel := encI_len x hxr.1 hxr.2
  refine at_skip <| Zx <| Zq <| at_block <| Zq <| Zg ?_
  (refine op_v (p_indexAddr_nat1 underlying28 sizeOf3 Y Y ?_) ?_; (focus (omega)))
  refine Zl isAgg3 Y (hv := by exact hin i x hx) ?_
  refine Za Y <| Z0 <| Zx <| Zq <| Zg <| Zm Y <| Xr [_] Y call100 Y rfl (putInt_spec x hxr.1 hxr.2) ?_
  refine Zm Y <| Zd Y rfl <| Zd Y rfl <| Za Y <| Za Y <| Z0 <| Zx <| Zg <| Zm Y <| Zm Y ?_
  (refine op_v (p_add_str Y Y ?_) ?_; (focus (rw [str_size, str_size]; omega)))
  refine Za Y <| Z0 <| Zn [3, 8, 9, 10] ?_
  refine nx_block_normal <| Zx <| Zg <| Ya (n := 1) Y Y <| Zm Y <| Z0 <| Zn [3, 10, 8, 9] ?_
  refine nx_againB (e' := [(3, _), (10, _)]) (m := _) (H' := _) (by exact ⟨i + 1, rfl, by omega, by rw [htk, putAll_snoc, ← str_app], rfl⟩)
 refine at_exit <| Zt <| Zt <| nx_block_exit <| Zx <| Zq <| Zg <| Zm Y <| Za Y <| Z0 <| Zx <| at_ret ?_
 refine nx_end1 rfl results133 Y (by exact ⟨by rw [List.take_of_length_le (by omega)], rfl⟩)

end Go.Proofs.YtkgmgmkbgnkdnaaGreatDoor

namespace Go.Proofs.YtkgmgmkbgnkdnaaGreatDoor
open Go.Proofs.Tryz
open Go Go.RowKit Gw
set_option linter.unusedVariables false
set_option linter.unusedSimpArgs false
set_option maxRecDepth 100000
attribute [local irreducible] Gw.At Gw.Nx Gw.Ops
theorem rowS_ext {sz : Nat} {e : TypeId} {v : Value} {k : Nat} {xs : List Value} {s : List Chunk} (h : RowS sz e v k xs s) (i : Nat) (hi : i < k) : ∃ g cap cur z, v = .slice (some ⟨g, 0, none⟩) k cap ∧ s = [(g, .cells cur e z)] ∧ i * sz + sz ≤ cur.size ∧ (cur.extract (i * sz) (i * sz + sz)).toList = (xs.drop (i * sz)).take sz := by
  obtain ⟨hl, ⟨_, h0, _⟩ | ⟨g, cap, cur, z, rfl, rfl, hk, hc, hsz, htk, hf⟩⟩ := h
  · omega
  · have h1 : i * sz + sz ≤ k * sz := by
      have := Nat.mul_le_mul_right sz (Nat.succ_le_of_lt hi)
      rw [Nat.succ_mul] at this; exact this
    have h2 : k * sz ≤ cap * sz := Nat.mul_le_mul_right sz hk
    refine ⟨g, cap, cur, z, rfl, rfl, by omega, ?_⟩
    rw [← htk, Array.toList_extract, List.extract_eq_take_drop, List.drop_take, List.take_take]
    congr 1; omega
def rowCells (rs : List RowM) : List Value := rs.flatMap (fun r => [.int .i64 r.t, .int .i64 r.k, .int .i64 r.v.a, .int .i64 r.v.b, .int .i64 r.v.c])
theorem flat_at {α : Type} (f : α → List Value) (sz : Nat) (hf : ∀ a, (f a).length = sz) : ∀ (l : List α) (i : Nat) (a : α), l[i]? = some a → ((l.flatMap f).drop (i * sz)).take sz = f a
  | x :: l, 0, a, h => by
    injection h with h; subst h
    rw [Nat.zero_mul, List.drop_zero, List.flatMap_cons, List.take_append_of_le_length (by rw [hf]; exact Nat.le_refl _), List.take_of_length_le (by rw [hf]; exact Nat.le_refl _)]
  | x :: l, i + 1, a, h => by
    have e1 : (f x ++ l.flatMap f).drop sz = l.flatMap f := by
      have h9 := List.drop_left (l₁ := f x) (l₂ := l.flatMap f); rwa [hf] at h9
    rw [List.flatMap_cons, Nat.succ_mul, Nat.add_comm, ← List.drop_drop, e1]
    exact flat_at f sz hf l i a h
theorem rowsIn_of {e : TypeId} {v : Value} {rs : List RowM} {s : List Chunk} (h : RowS 5 e v rs.length (rowCells rs) s) (hn : rs.length ≤ maxLen) : RowsIn s v rs := by
  obtain ⟨b, cap, rfl⟩ := h.form
  refine ⟨b, cap, rfl, hn, fun i r hr => ?_⟩
  obtain ⟨g, cap', cur, z, hv, rfl, hsz, hex⟩ := rowS_ext h i (List.getElem?_eq_some_iff.1 hr).1
  injection hv with hv1 hv2 hv3
  refine ⟨g, 0, cur, e, z, hv1, List.mem_singleton.2 rfl, by omega, ?_⟩
  rw [Nat.zero_add]
  apply Array.toList_inj.1
  rw [hex]
  exact flat_at _ 5 (fun _=>rfl) rs i r hr
def chgCells (cs : List Chg) : List Value := cs.flatMap (fun c => [.int .i64 c.t, .int .i64 c.k, .bool c.had, .int .i64 c.o.a, .int .i64 c.o.b, .int .i64 c.o.c, .bool c.has, .int .i64 c.n.a, .int .i64 c.n.b, .int .i64 c.n.c])
theorem chgsIn_of {e : TypeId} {v : Value} {rs : List Chg} {s : List Chunk} (h : RowS 10 e v rs.length (chgCells rs) s) (hn : rs.length ≤ maxLen) : ChgsIn s v rs := by
  obtain ⟨b, cap, rfl⟩ := h.form
  refine ⟨b, cap, rfl, hn, fun i r hr => ?_⟩
  obtain ⟨g, cap', cur, z, hv, rfl, hsz, hex⟩ := rowS_ext h i (List.getElem?_eq_some_iff.1 hr).1
  injection hv with hv1 hv2 hv3
  refine ⟨g, 0, cur, e, z, hv1, List.mem_singleton.2 rfl, by omega, ?_⟩
  rw [Nat.zero_add]
  apply Array.toList_inj.1
  rw [hex]
  exact flat_at _ 10 (fun _=>rfl) rs i r hr
end Go.Proofs.YtkgmgmkbgnkdnaaGreatDoor
