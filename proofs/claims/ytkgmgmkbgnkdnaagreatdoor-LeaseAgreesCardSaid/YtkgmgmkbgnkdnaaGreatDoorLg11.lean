/- Records in plain words: a log that can be applied. -/
/- The reference of layer 4: Log. -/
import Derived.Test.YtkgmgmkbgnkdnaaGreatDoorEz
import Derived.Test.YtkgmgmkbgnkdnaaGreatDoorLg9
import Derived.Test.YtkgmgmkbgnkdnaaGreatDoorEx17

namespace Go.Proofs.YtkgmgmkbgnkdnaaGreatDoor
open Go.Proofs.Tryz
open Go Go.RowKit Gw
set_option linter.unusedVariables false
set_option linter.unusedSimpArgs false
set_option maxRecDepth 100000
attribute [local irreducible] Gw.At Gw.Nx Gw.Ops
structure RecM where
  p : Int
  q : Option Addr
  cap : Nat
  cs : List Chg
def recCells (l : List RecM) : List Value := l.flatMap (fun r => [.int .i64 r.p, .slice r.q r.cs.length r.cap])
def RecsIn (M : List Chunk) (v : Value) (l : List RecM) : Prop := ∃ p cap, v = .slice p l.length cap ∧ (l.length ≤ maxLen ∧ l.length ≤ cap) ∧ ∀ (i : Nat) (r : RecM), l[i]? = some r → ChgsIn M (.slice r.q r.cs.length r.cap) r.cs ∧ ∃ g off cur T zz, p = some ⟨g, off, none⟩ ∧ (g, Obj.cells cur T zz) ∈ M ∧ off + i * 2 + 2 ≤ cur.size ∧ cur.extract (off + i * 2) (off + i * 2 + 2) = #[.int .i64 r.p, .slice r.q r.cs.length r.cap]
def rowsOf (l : List RecM) : List RowM := l.foldl (fun rs r => putAllR rs r.cs) []
theorem rowsOf_snoc (l : List RecM) (r : RecM) : rowsOf (l ++ [r]) = putAllR (rowsOf l) r.cs := by unfold rowsOf; rw [List.foldl_append]; rfl
def LogOk (l : List RecM) : Prop := ∀ (i : Nat) (r : RecM), l[i]? = some r → AppOk (rowsOf (l.take i)) (i : Int) r.p r.cs ∧ r.cs.length ≤ 3
theorem app_sorted {rs : List RowM} {p rp : Int} {cs : List Chg} (hs : SortedR rs) (h : AppOk rs p rp cs) : SortedR (putAllR rs cs) ∧ (putAllR rs cs).length ≤ 2000 := by
  have ha := asc_of h.ok.ord
  obtain ⟨h1, _⟩ := fold_inv hs ha h.fit cs.length (Nat.le_refl _)
  have h2 := len_putAll hs ha h.fit cs.length (Nat.le_refl _)
  rw [List.take_length] at h1 h2
  exact ⟨h1, by have := h.size; omega⟩
theorem LogOk.rows {l : List RecM} (h : LogOk l) : ∀ i, i ≤ l.length → SortedR (rowsOf (l.take i)) ∧ (rowsOf (l.take i)).length ≤ 2000
  | 0, _ => ⟨List.Pairwise.nil, Nat.zero_le _⟩
  | i + 1, hi => by
    obtain ⟨r, hr⟩ : ∃ r, l[i]? = some r := ⟨_, List.getElem?_eq_getElem (by omega)⟩
    have ih := LogOk.rows h i (by omega)
    rw [List.take_add_one, hr]
    show SortedR (rowsOf (l.take i ++ [r])) ∧ _
    rw [show (some r).toList = [r] from rfl, rowsOf_snoc]
    exact app_sorted ih.1 (h i r hr).1
theorem LogOk.all {l : List RecM} (h : LogOk l) : SortedR (rowsOf l) ∧ (rowsOf l).length ≤ 2000 := by
  have := h.rows l.length (Nat.le_refl _)
  rwa [List.take_length] at this
theorem LogOk.snoc {l : List RecM} (h : LogOk l) {r : RecM} (hr : AppOk (rowsOf l) (l.length : Int) r.p r.cs) (h3 : r.cs.length ≤ 3) : LogOk (l ++ [r]) := by
  intro i x hx
  rw [List.getElem?_append] at hx
  split at hx
  · rename_i hi
    rw [List.take_append_of_le_length (by omega)]
    exact h i x hx
  · rename_i hi
    have hlt := (List.getElem?_eq_some_iff.1 hx).1
    simp only [List.length_singleton] at hlt
    have e : i = l.length := by omega
    subst e
    rw [Nat.sub_self] at hx
    injection hx with hx
    subst hx
    rw [List.take_left' rfl]
    exact ⟨hr, h3⟩
theorem chgCells_len : ∀ (cs : List Chg), (chgCells cs).length = cs.length * 10
  | [] => rfl
  | c :: cs => by
    have := chgCells_len cs
    unfold chgCells at *
    rw [List.flatMap_cons, List.length_append, this, List.length_cons]; simp; omega
theorem chgCells_app (a b : List Chg) : chgCells (a ++ b) = chgCells a ++ chgCells b := by unfold chgCells; rw [List.flatMap_append]
theorem chgCells_take (cs : List Chg) (k : Nat) : (chgCells cs).take (k * 10) = chgCells (cs.take k) := by
  rcases Nat.lt_or_ge cs.length k with h | h
  · rw [List.take_of_length_le (by rw [chgCells_len]; omega), List.take_of_length_le (by omega)]
  · have e : chgCells cs = chgCells (cs.take k) ++ chgCells (cs.drop k) := by rw [← chgCells_app, List.take_append_drop]
    rw [e, List.take_left' (by rw [chgCells_len, List.length_take]; omega)]
theorem chgCells_drop (cs : List Chg) (k : Nat) : (chgCells cs).drop (k * 10) = chgCells (cs.drop k) := by
  rcases Nat.lt_or_ge cs.length k with h | h
  · rw [List.drop_of_length_le (by rw [chgCells_len]; omega), List.drop_of_length_le (by omega)]; rfl
  · have e : chgCells cs = chgCells (cs.take k) ++ chgCells (cs.drop k) := by rw [← chgCells_app, List.take_append_drop]
    rw [e, List.drop_left' (by rw [chgCells_len, List.length_take]; omega)]
theorem chgCells_one (cs : List Chg) : ∀ u ∈ chgCells cs, u.oneCell' = true := by
  intro u hu
  unfold chgCells at hu
  obtain ⟨r, _, h⟩ := List.mem_flatMap.1 hu
  simp only [List.mem_cons, List.not_mem_nil, or_false] at h
  rcases h with rfl | rfl | rfl | rfl | rfl | rfl | rfl | rfl | rfl | rfl <;> rfl
theorem chg_at {cur : Array Value} {cs : List Chg} {j : Nat} {y : Chg} (h : CellsIn cur 0 (chgCells cs)) (hy : cs[j]? = some y) : cur[j * 10]? = some (.int .i64 y.t) ∧ cur[j * 10 + 1]? = some (.int .i64 y.k) := by
  have h1 := flat_at (fun c : Chg => [.int .i64 c.t, .int .i64 c.k, .bool c.had, .int .i64 c.o.a, .int .i64 c.o.b, .int .i64 c.o.c, .bool c.has, .int .i64 c.n.a, .int .i64 c.n.b, .int .i64 c.n.c]) 10 (fun _=>rfl) cs j y hy
  have e : ∀ q, ((chgCells cs).drop (j * 10)).take 10 = [.int .i64 y.t, .int .i64 y.k, .bool y.had, .int .i64 y.o.a, .int .i64 y.o.b, .int .i64 y.o.c, .bool y.has, .int .i64 y.n.a, .int .i64 y.n.b, .int .i64 y.n.c] → q < 10 → (chgCells cs)[j * 10 + q]? = ([.int .i64 y.t, .int .i64 y.k, .bool y.had, .int .i64 y.o.a, .int .i64 y.o.b, .int .i64 y.o.c, .bool y.has, .int .i64 y.n.a, .int .i64 y.n.b, .int .i64 y.n.c] : List Value)[q]? := fun q h9 hq => by
    rw [← h9, List.getElem?_take, if_pos hq, List.getElem?_drop]
  have a0 := h.get (j * 10 + 0) _ ((e 0 h1 (by omega)).trans rfl)
  have a1 := h.get (j * 10 + 1) _ ((e 1 h1 (by omega)).trans rfl)
  rw [Nat.zero_add] at a0 a1
  exact ⟨a0, a1⟩
theorem chgsIn_more {M : List Chunk} {v : Value} {cs : List Chg} (h : ChgsIn M v cs) (s : List Chunk) : ChgsIn (M ++ s) v cs := by
  obtain ⟨p, cap, hv, hl, hg⟩ := h
  refine ⟨p, cap, hv, hl, fun i c hc => ?_⟩
  obtain ⟨g, off, cur, T, zz, h1, h2, h3⟩ := hg i c hc
  exact ⟨g, off, cur, T, zz, h1, List.mem_append_left _ h2, h3⟩
theorem chgsIn_right {M : List Chunk} {v : Value} {cs : List Chg} (h : ChgsIn M v cs) (s : List Chunk) : ChgsIn (s ++ M) v cs := by
  obtain ⟨p, cap, hv, hl, hg⟩ := h
  refine ⟨p, cap, hv, hl, fun i c hc => ?_⟩
  obtain ⟨g, off, cur, T, zz, h1, h2, h3⟩ := hg i c hc
  exact ⟨g, off, cur, T, zz, h1, List.mem_append_right _ h2, h3⟩
def SixIn (M : List Chunk) (v : Value) (xs : List (List Int)) : Prop := ∃ p cap, v = .slice p xs.length cap ∧ (xs.length ≤ maxLen ∧ xs.length ≤ cap) ∧ ∀ (i : Nat) (z : List Int), xs[i]? = some z → z.length = 6 ∧ (∀ n ∈ z, -9223372036854775808 ≤ n ∧ n ≤ 9223372036854775807) ∧ ∃ g off cur T zz, p = some ⟨g, off, none⟩ ∧ (g, Obj.cells cur T zz) ∈ M ∧ ∀ (j : Nat) (n : Int), z[j]? = some n → cur[off + i * 6 + j]? = some (.int .i64 n)
theorem recsIn_of {v : Value} {l : List RecM} {s MM : List Chunk} (h : RowS 2 51 v l.length (recCells l) s) (hn : l.length ≤ maxLen) (hM : ∀ r ∈ l, ChgsIn MM (.slice r.q r.cs.length r.cap) r.cs) : RecsIn (s ++ MM) v l := by
  obtain ⟨b, cap, rfl⟩ := h.form
  refine ⟨b, cap, rfl, ⟨hn, rowS_le h⟩, fun i r hr => ⟨chgsIn_right (hM r (List.mem_of_getElem? hr)) s, ?_⟩⟩
  obtain ⟨g, cap', cur, z, hv, rfl, hsz, hex⟩ := rowS_ext h i (List.getElem?_eq_some_iff.1 hr).1
  injection hv with hv1 hv2 hv3
  refine ⟨g, 0, cur, 51, z, hv1, List.mem_append_left _ (List.mem_singleton.2 rfl), by omega, ?_⟩
  rw [Nat.zero_add]
  apply Array.toList_inj.1
  rw [hex]
  exact flat_at _ 2 (fun _=>rfl) l i r hr
theorem recCells_app (a b : List RecM) : recCells (a ++ b) = recCells a ++ recCells b := by unfold recCells; rw [List.flatMap_append]

theorem r4_new : Does Tryz.prog 19 #[] [] (fun r H' => ∃ sp, r = .pointer (some ⟨sp, 0, none⟩) ∧ H' = [[(sp, .cells #[.slice none 0 0, .int .i64 0] 71 (0, 0))]]) := by
 refine spec_enter func19 rfl ntmps19 rfl ?_
 intro u R
 refine Zb [] ?_
 refine Zq <| Zg <| Za Y <| Z0 <| Zx <| Zq <| Zg <| Zv (p_build (vs := []) (cs := #[_, _]) Y (run_build_struct (pl := #[(0, 1), (1, 1)]) zeroValue71 underlying71 (fun _ => by kernel_rfl) rfl)) ?_
 refine Ze (w_box Y (cs := #[_, _]) rfl) ?_
 rintro _ _ ⟨sp, rfl, rfl⟩
 refine Za Y <| Z0 <| Zx <| at_ret ?_
 refine nx_end1 rfl results19 Y (by exact ⟨sp, rfl, rfl⟩)

end Go.Proofs.YtkgmgmkbgnkdnaaGreatDoor

namespace Go.Proofs.YtkgmgmkbgnkdnaaGreatDoor
open Go.Proofs.Tryz
open Go Go.RowKit Gw
set_option linter.unusedVariables false
set_option linter.unusedSimpArgs false
set_option maxRecDepth 100000
attribute [local irreducible] Gw.At Gw.Nx Gw.Ops
theorem r4_log {M : List Chunk} {v : Value} {xs : List (List Int)} (hX : SixIn M v xs) (hx : xs.length ≤ 1000) : Does Tryz.prog 5 #[v] [M] (fun r H' => ∃ (l : List RecM) (s : List Chunk), LogOk l ∧ l.length ≤ xs.length ∧ RecsIn s r l ∧ H' = [s, M]) := by
 have hml : maxLen = 9223372036854775807 := rfl
 obtain ⟨px, capx, rfl, hxl, hgx⟩ := id hX
 refine spec_enter func5 rfl ntmps5 rfl ?_
 intro u R
 refine Zb [0] ?_
 refine Zq <| Zg <| Za Y <| Z0 <| Zx <| Zq <| Zg <| Za Y <| Z0 <| Zx <| Zq <| Zg <| Zc [] Y call19 Y rfl (r4_new) ?_
 rintro _ _ ⟨_, ⟨sp, rfl, rfl⟩, rfl⟩
 refine Za Y <| Z0 <| Zx <| Zq <| Zq <| Zg <| Za Y <| Z0 <| Zx <| at_block <| at_nil ?_
 refine at_nil ?_
 refine at_nil ?_
 refine Zb [3, 5, 0, 4] ?_
 refine at_loopB (e0 := [(3, _), (5, _)]) (H0 := _) (n := _) (fun m e H => ∃ (i : Nat) (rcs : List RecM) (w wo : Value) (sv so MM : List Chunk), m = xs.length - i ∧ (i ≤ xs.length ∧ LogOk rcs ∧ rcs.length ≤ i ∧ RowS 5 67 w (rowsOf rcs).length (rowCells (rowsOf rcs)) sv ∧ RowS 2 51 wo rcs.length (recCells rcs) so ∧ (∀ r ∈ rcs, ChgsIn MM (.slice r.q r.cs.length r.cap) r.cs)) ∧ e = [(3, wo), (5, .int .i64 (i : Int))] ∧ H = [[(sp, .cells #[w, .int .i64 (rcs.length : Int)] 71 (0, 0))], sv, so, MM]) (by exact ⟨0, [], .slice none 0 0, .slice none 0 0, [], [], [], rfl, ⟨Nat.zero_le _, (by intro i r h; cases h), Nat.le_refl _, rowS_nil 5 _, rowS_nil 2 _, by simp⟩, rfl, rfl⟩) Wp ?_
 rintro _ _ _ ⟨i, rcs, w, wo, sv, so, MM, rfl, ⟨hi, hlog, hrl, hrw, hro, hMM⟩, rfl, rfl⟩
 obtain ⟨qw, capw, rfl⟩ := hrw.form
 obtain ⟨qo, capo, rfl⟩ := hro.form
 obtain ⟨hsr, hr2⟩ := hlog.all
 have hRW := rowsIn_of hrw (by omega)
 refine Zq <| Zq <| Zg <| Zm Y <| Zm Y <| Zv (p_len_slice underlying22 Y) <| Zv (p_lss_nat Y Y) <| Z0 <| Zx ?_
 refine at_if Y (fun hlt => ?_) (fun hlt => ?_)
 ·
  obtain ⟨z, hz0⟩ : ∃ z, xs[i]? = some z := ⟨_, List.getElem?_eq_getElem hlt⟩
  obtain ⟨h6, hrng, g, off, cur, T, zz, rfl, hm, hcx⟩ := hgx i z hz0
  refine at_skip <| Zx <| Zq <| at_block <| Zq <| Zg <| Za Y <| Z0 <| Zx <| Zq <| Zq <| Zg <| Za Y <| Z0 <| Zx <| at_block <| at_nil ?_
  refine Zb [6, 7, 0, 3, 4, 5] ?_
  refine at_loopB (e0 := [(6, _), (7, _)]) (H0 := _) (n := _) (fun m e H => ∃ (k : Nat) (w2 : Value) (cs : List Chg) (sl : List Chunk), m = 3 - k ∧ (k ≤ 3 ∧ cs.length ≤ k ∧ RowS 10 55 w2 cs.length (chgCells cs) sl) ∧ e = [(6, w2), (7, .int .i64 (k : Int))] ∧ H = [sl]) (by exact ⟨0, .slice none 0 0, [], [], rfl, ⟨Nat.zero_le _, Nat.le_refl _, rowS_nil 10 _⟩, rfl, rfl⟩) Wp ?_
  rintro _ _ _ ⟨k, w2, cs, sl, rfl, ⟨hk3, hck, hrl2⟩, rfl, rfl⟩
  obtain ⟨gw, cw, rfl⟩ := hrl2.form
  have hcw := rowS_le hrl2
  refine Zq <| Zq <| Zg <| Zm Y <| Zv (p_lss_nat (n := 3) Y Y) <| Z0 <| Zx ?_
  refine at_if Y (fun hk => ?_) (fun hk => ?_)
  ·
   obtain ⟨za, hza⟩ : ∃ n, z[2 * k]? = some n := ⟨_, List.getElem?_eq_getElem (by omega)⟩
   obtain ⟨zb, hzb⟩ : ∃ n, z[2 * k + 1]? = some n := ⟨_, List.getElem?_eq_getElem (by omega)⟩
   have hra := hrng za (List.mem_of_getElem? hza)
   have hrb := hrng zb (List.mem_of_getElem? hzb)
   have hca := hcx _ _ hza
   have hcb := hcx _ _ hzb
   refine at_skip <| Zx <| Zq <| at_block <| Zq <| Zg <| Zm Y <| Zm Y <| Zm Y ?_
   (refine op_v (p_mul_nat (m := 2) Y Y ?_) ?_; (focus (omega)))
   (refine op_v (p_indexAddr_nat underlying22 sizeOf65 Y Y ?_) ?_; (focus (omega)))
   (refine op_v (p_indexAddr_arr underlying65 sizeOf3 Y Y ?_) ?_; (focus (omega)))
   refine op_rm (cs := [(g, .cells cur T zz)]) (by simp [hm]) (p_load isAgg3 Y (by first | exact hca | (rw [Nat.mul_one]; exact hca))) rfl rfl ?_
   refine Za Y <| Z0 <| Zx <| Zb [8, 0, 3, 4, 5, 6, 7] ?_
   refine at_cutB (e0 := [(8, _)]) (H0 := []) (fun e H => ∃ (n : Nat), (n ≤ 9223372036854775807) ∧ e = [(8, .int .i64 (n : Int))] ∧ H = []) Wp ?hx_3 ?hy_3
   case hx_3 =>
    refine Zq <| Zg <| Zm Y <| Zv (p_lss Y Y) <| Z0 <| Zx ?_
    refine at_if Y (fun hna => ?_) (fun hna => ?_)
    ·
     refine Zg <| Zm Y <| Yi Y Y ?_
     (refine op_v (p_neg Y (IntWalk.i64_in _ ?_)) ?_; (focus (omega)))
     refine Za Y <| Z0 <| Zn [8, 0, 3, 4, 5, 6, 7] ?_
     refine nx_cutB (e' := [(8, _)]) (H' := _) (by exact ⟨(-(za + 1)).toNat, by omega, by rw [show (((-(za + 1)).toNat : Nat) : Int) = 0 - (za + 1) by omega], rfl⟩)
    refine at_skip <| Zn [8, 0, 3, 4, 5, 6, 7] ?_
    refine nx_cutB (e' := [(8, _)]) (H' := _) (by exact ⟨za.toNat, by omega, by rw [show ((za.toNat : Nat) : Int) = za by omega], rfl⟩)
   rintro _ _ ⟨n, hn, rfl, rfl⟩
   refine Zq <| Zg <| Zm Y <| Zm Y <| Zm Y ?_
   (refine op_v (p_mul_nat (m := 2) Y Y ?_) ?_; (focus (omega)))
   refine Ya (n := 1) Y Y ?_
   (refine op_v (p_indexAddr_nat underlying22 sizeOf65 Y Y ?_) ?_; (focus (omega)))
   (refine op_v (p_indexAddr_arr underlying65 sizeOf3 Y Y ?_) ?_; (focus (omega)))
   refine op_rm (cs := [(g, .cells cur T zz)]) (by simp [hm]) (p_load isAgg3 Y (by first | exact hcb | (rw [Nat.mul_one]; exact hcb))) rfl rfl ?_
   refine Za Y <| Z0 <| Zx <| Zb [9, 0, 3, 4, 5, 6, 7, 8] ?_
   refine at_cutB (e0 := [(9, _)]) (H0 := []) (fun e H => ∃ (m : Nat), (m ≤ 9223372036854775807) ∧ e = [(9, .int .i64 (m : Int))] ∧ H = []) Wp ?hx_6 ?hy_6
   case hx_6 =>
    refine Zq <| Zg <| Zm Y <| Zv (p_lss Y Y) <| Z0 <| Zx ?_
    refine at_if Y (fun hnb => ?_) (fun hnb => ?_)
    ·
     refine Zg <| Zm Y <| Yi Y Y ?_
     (refine op_v (p_neg Y (IntWalk.i64_in _ ?_)) ?_; (focus (omega)))
     refine Za Y <| Z0 <| Zn [9, 0, 3, 4, 5, 6, 7, 8] ?_
     refine nx_cutB (e' := [(9, _)]) (H' := _) (by exact ⟨(-(zb + 1)).toNat, by omega, by rw [show (((-(zb + 1)).toNat : Nat) : Int) = 0 - (zb + 1) by omega], rfl⟩)
    refine at_skip <| Zn [9, 0, 3, 4, 5, 6, 7, 8] ?_
    refine nx_cutB (e' := [(9, _)]) (H' := _) (by exact ⟨zb.toNat, by omega, by rw [show ((zb.toNat : Nat) : Int) = zb by omega], rfl⟩)
   rintro _ _ ⟨m, hm9, rfl, rfl⟩
   refine Zq <| Zg <| Zm Y ?_
   (refine op_v (p_rem_nat (n := 3) Y Y ?_) ?_; (focus (omega)))
   refine Zm Y ?_
   (refine op_v (p_quo_nat (n := 3) Y Y ?_ ?_) ?_; (focus (omega)); (focus (omega)))
   (refine op_v (p_rem_nat (n := 9) Y Y ?_) ?_; (focus (omega)))
   refine Ya (m := 1) Y Y <| Zv (p_build (vs := [(0, _), (1, _)]) (cs := #[_, _, _, _, _, _, _, _, _, _]) Y (run_build_struct (pl := #[(0, 1), (1, 1), (2, 1), (3, 3), (6, 1), (7, 3)]) zeroValue55 underlying55 (fun _ => by kernel_rfl) rfl)) ?_
   refine Ze (w_alloc zeroValue55 (cs := #[_, _, _, _, _, _, _, _, _, _]) rfl) ?_
   rintro _ _ ⟨cb, rfl, rfl⟩
   refine Xe (w_store_agg sizeOf55 Y Y (by (simp [Value.oneCell', Value.cells]; done)) Wu (by exact (rfl : _ = (#[.int .i64 ((n % 3 : Nat) : Int), .int .i64 ((1 + n / 3 % 9 : Nat) : Int), .bool false, .int .i64 0, .int .i64 0, .int .i64 0, .bool false, .int .i64 0, .int .i64 0, .int .i64 0] : Array Value))) (by first | rfl | (simp; done)) (by exact Nat.le_refl _) (by exact free_zero _)) ?_
   refine Z0 <| Zx <| Zq <| Zg <| Zm Y <| Zh 0 underlying55 rfl rfl sizeOf3 Y <| Zl isAgg3 Y ?_
   refine Zh 1 underlying55 rfl rfl sizeOf3 Y <| Zl isAgg3 Y ?_
   refine Xr [_, _, _] Y call20 Y rfl (r4_get sp qw capw (rcs.length : Int) ((n % 3 : Nat) : Int) ((1 + n / 3 % 9 : Nat) : Int) (rowsOf rcs) sv hRW (by omega) hsr) ?_
   obtain ⟨gr, hgr⟩ : ∃ gr, gr = getL (rowsOf rcs) ((n % 3 : Nat) : Int) ((1 + n / 3 % 9 : Nat) : Int) := ⟨_, rfl⟩
   rw [← hgr]
   refine Zm Y <| Zd Y rfl <| Zd Y rfl <| Ze (w_alloc zeroValue67 (cs := #[_, _, _, _, _]) rfl) ?_
   rintro _ _ ⟨ob, rfl, rfl⟩
   refine Xe (w_store_agg sizeOf67 Y Y (by (simp [Value.oneCell']; done)) Wu (by exact (rfl : _ = (#[.int .i64 gr.1.t, .int .i64 gr.1.k, .int .i64 gr.1.v.a, .int .i64 gr.1.v.b, .int .i64 gr.1.v.c] : Array Value))) (by first | rfl | (simp; done)) (by exact Nat.le_refl _) (by exact free_zero _)) ?_
   refine Za Y <| Z0 <| Zn [0, 3, 4, 5, 6, 7, 8, 9, 10, 11, 12] ?_
   refine Zx <| Zq <| Zg <| Zm Y <| Zh 2 underlying55 rfl rfl sizeOf4 Y <| Xe (Zs sizeOf4 Y Y rfl (hc := by exact (rfl : _ = (#[.int .i64 ((n % 3 : Nat) : Int), .int .i64 ((1 + n / 3 % 9 : Nat) : Int), .bool gr.2, .int .i64 0, .int .i64 0, .int .i64 0, .bool false, .int .i64 0, .int .i64 0, .int .i64 0] : Array Value))) (hi := by (simp; done))) ?_
   refine Z0 <| Zx <| Zq <| Zg <| Zh 2 underlying67 rfl rfl sizeOf53 Y <| Zo Wh (p_load_agg (cs := #[_, _, _]) isAgg53 sizeOf53 Y (by exact Nat.le_refl _) (by rfl)) ?_
   refine Zh 3 underlying55 rfl rfl sizeOf53 Y <| Xe (w_store_agg sizeOf53 Y Y (by (simp [Value.oneCell']; done)) Wu (by exact (rfl : _ = (#[.int .i64 ((n % 3 : Nat) : Int), .int .i64 ((1 + n / 3 % 9 : Nat) : Int), .bool gr.2, .int .i64 gr.1.v.a, .int .i64 gr.1.v.b, .int .i64 gr.1.v.c, .bool false, .int .i64 0, .int .i64 0, .int .i64 0] : Array Value))) (by first | rfl | (simp; done)) (by (simp; done)) (by exact free_zero _)) ?_
   refine Z0 <| Zx <| Zb [12, 0, 3, 4, 5, 6, 7, 8, 9, 10] ?_
   refine at_cutB (e0 := [(12, _)]) (H0 := [[(cb, .cells #[.int .i64 ((n % 3 : Nat) : Int), .int .i64 ((1 + n / 3 % 9 : Nat) : Int), .bool gr.2, .int .i64 gr.1.v.a, .int .i64 gr.1.v.b, .int .i64 gr.1.v.c, .bool false, .int .i64 0, .int .i64 0, .int .i64 0] 55 (0, 0))]]) (fun e H => ∃ (hb : Bool), (True) ∧ e = [] ∧ H = [[(cb, .cells #[.int .i64 ((n % 3 : Nat) : Int), .int .i64 ((1 + n / 3 % 9 : Nat) : Int), .bool gr.2, .int .i64 gr.1.v.a, .int .i64 gr.1.v.b, .int .i64 gr.1.v.c, .bool hb, .int .i64 0, .int .i64 0, .int .i64 0] 55 (0, 0))]]) Wp ?hx_9 ?hy_9
   case hx_9 =>
    refine Zg <| Zm Y <| Zv (p_not Y) <| Zm Y ?_
    refine ops_split_bool (t := 77) Y rfl (fun hh => ?_) (fun hh => ?_)
    ·
     refine op_skip Y rfl <| op_skip Y rfl <| op_skip Y rfl <| Zv (p_pick_t Y Y) <| Zh 6 underlying55 rfl rfl sizeOf4 Y <| Xe (Zs sizeOf4 Y Y rfl (hi := by (simp; done))) ?_
     refine Z0 <| Zn [0, 3, 4, 5, 6, 7, 8, 9, 10] ?_
     refine nx_cutB (e' := []) (H' := [[(cb, .cells #[_, _, _, _, _, _, _, _, _, _] 55 (0, 0))]]) ?_
     exact ⟨_, trivial, rfl, rfl⟩
    refine Zf Y Y ?_
    (refine op_wg Y (p_rem_nat (n := 4) Y Y ?_) rfl rfl ?_; (focus (omega)))
    refine Yg (p_gtr_nat (n := 0) Y Y) <| Zv (p_pick_f Y Y) <| Zh 6 underlying55 rfl rfl sizeOf4 Y <| Xe (Zs sizeOf4 Y Y rfl (hi := by (simp; done))) ?_
    refine Z0 <| Zn [0, 3, 4, 5, 6, 7, 8, 9, 10] ?_
    refine nx_cutB (e' := []) (H' := [[(cb, .cells #[_, _, _, _, _, _, _, _, _, _] 55 (0, 0))]]) ?_
    exact ⟨_, trivial, rfl, rfl⟩
   rintro _ _ ⟨hb, _, rfl, rfl⟩
   refine Zb [9, 0, 3, 4, 5, 6, 7, 8, 10] ?_
   refine at_cutB (e0 := [(9, _)]) (H0 := [[(cb, .cells #[.int .i64 ((n % 3 : Nat) : Int), .int .i64 ((1 + n / 3 % 9 : Nat) : Int), .bool gr.2, .int .i64 gr.1.v.a, .int .i64 gr.1.v.b, .int .i64 gr.1.v.c, .bool hb, .int .i64 0, .int .i64 0, .int .i64 0] 55 (0, 0))]]) (fun e H => ∃ (c : Chg), (True) ∧ e = [] ∧ H = [[(cb, .cells #[.int .i64 c.t, .int .i64 c.k, .bool c.had, .int .i64 c.o.a, .int .i64 c.o.b, .int .i64 c.o.c, .bool c.has, .int .i64 c.n.a, .int .i64 c.n.b, .int .i64 c.n.c] 55 (0, 0))]]) Wp ?hx_10 ?hy_10
   case hx_10 =>
    refine Zq <| Zg <| Zh 6 underlying55 rfl rfl sizeOf4 Y <| Zl isAgg4 Y ?_
    refine Z0 <| Zx ?_
    refine at_if_bool Y (fun hhb => ?_) (fun hhb => ?_)
    ·
     refine Zg <| Zm Y ?_
     (refine op_v (p_quo_nat (n := 4) Y Y ?_ ?_) ?_; (focus (omega)); (focus (omega)))
     (refine op_v (p_rem_nat (n := 10) Y Y ?_) ?_; (focus (omega)))
     refine Zm Y ?_
     (refine op_v (p_quo_nat (n := 40) Y Y ?_ ?_) ?_; (focus (omega)); (focus (omega)))
     (refine op_v (p_rem_nat (n := 9) Y Y ?_) ?_; (focus (omega)))
     refine Ya (m := 1) Y Y <| Zm Y ?_
     (refine op_v (p_quo_nat (n := 400) Y Y ?_ ?_) ?_; (focus (omega)); (focus (omega)))
     (refine op_v (p_rem_nat (n := 40) Y Y ?_) ?_; (focus (omega)))
     (refine op_v (p_sub Y Y (IntWalk.i64_in _ ?_)) ?_; (focus (omega)))
     refine Zv (p_build (vs := [(0, _), (1, _), (2, _)]) (cs := #[_, _, _]) Y (run_build_array zeroValue53 underlying53 sizeOf3 rfl)) ?_
     refine Zh 7 underlying55 rfl rfl sizeOf53 Y <| Xe (w_store_agg sizeOf53 Y Y (by (simp [Value.oneCell', Value.cells]; done)) Wu (by rfl) (by first | rfl | (simp; done)) (by exact Nat.le_refl _) (by exact free_zero _)) ?_
     refine Z0 <| Zn [0, 3, 4, 5, 6, 7, 8, 10] ?_
     refine nx_cutB (e' := []) (H' := [[(cb, .cells #[_, _, _, _, _, _, _, _, _, _] 55 (0, 0))]]) ?_
     exact ⟨⟨_, _, _, gr.1.v, _, ⟨_, _, _⟩⟩, trivial, rfl, rfl⟩
    refine at_skip <| Zn [0, 3, 4, 5, 6, 7, 8, 10] ?_
    refine nx_cutB (e' := []) (H' := [[(cb, .cells #[_, _, _, _, _, _, _, _, _, _] 55 (0, 0))]]) ?_
    exact ⟨⟨_, _, _, gr.1.v, _, ⟨_, _, _⟩⟩, trivial, rfl, rfl⟩
   rintro _ _ ⟨c, _, rfl, rfl⟩
   refine Zq <| Zg <| Za Y <| Z0 <| Zx <| Zq <| Zq <| Zg <| Za Y <| Z0 <| Zx <| at_block <| Zb [13, 14, 0, 3, 4, 5, 6, 7, 8, 10] ?_
   refine at_loopB (e0 := [(13, _), (14, _)]) (H0 := _) (n := _) (fun m e H => ∃ (j : Nat) (b : Bool), m = cs.length - j ∧ (j ≤ cs.length) ∧ e = [(13, .bool b), (14, .int .i64 (j : Int))] ∧ H = []) (by exact ⟨0, false, rfl, Nat.zero_le _, rfl, rfl⟩) Wp ?_
   rintro _ _ _ ⟨j, b, rfl, hj, rfl, rfl⟩
   refine Zq <| Zq <| Zg <| Zm Y <| Zm Y <| Zv (p_len_slice underlying49 Y) <| Zv (p_lss_nat Y Y) <| Z0 <| Zx ?_
   refine at_if Y (fun hjl => ?_) (fun hjl => ?_)
   ·
    refine at_skip <| Zx <| Zq <| at_block ?_
    obtain ⟨y, hy⟩ : ∃ y, cs[j]? = some y := ⟨_, List.getElem?_eq_getElem hjl⟩
    obtain ⟨gl, capl, curl, zl, hvl, hsl, hlel, hinl⟩ := rowS_some hrl2 (by omega)
    injection hvl with hv1 hv2 hv3
    subst hv1 hsl
    obtain ⟨hy0, hy1⟩ := chg_at hinl hy
    refine at_draw (n := 22) (0 :: 1 :: 3 :: 3 :: 15 :: 31 :: 63 :: 3 :: 131 :: 511 :: 1023 :: 2047 :: 2047 :: 8191 :: 16383 :: 32767 :: 2047 :: 67583 :: 262143 :: 524287 :: 1048575 :: 2097151 :: []) 0 (by kernel_rfl) (by kernel_rfl) rfl ?_
    refine Zi 1 0 rfl (p_move Y) <| Zi 3 1 rfl (p_move Y) ?_
    refine lin_split_bool (t := 105) Y (fun hgk => ?_) (fun hgk => ?_)
    ·
     first | rw [decide_eq_true hgk] | rw [hgk] | skip
     refine Yk 7 2 rfl <| Yk 15 3 rfl <| Yk 31 4 rfl <| Yk 63 5 rfl <| Yk 127 6 rfl <| Yk 255 7 rfl <| Yk 511 8 rfl <| Yk 1023 9 rfl <| Yk 2047 10 rfl <| Yk 4095 11 rfl <| Yk 8191 12 rfl <| Yk 16383 13 rfl <| Yk 32767 14 rfl <| Yk 65535 15 rfl <| Yk 131071 16 rfl <| Yk 262143 17 rfl <| Yk 524287 18 rfl <| Yk 1048575 19 rfl <| Zi 2097151 20 rfl (p_pick_t Y Y) <| Zi 4194303 21 rfl (p_assign Y) <| lin_nil ?_
     refine Zn [0, 3, 4, 5, 6, 7, 8, 10, 13, 14] ?_
     refine nx_block_normal <| Zx <| Zg <| Zm Y <| Ya (n := 1) Y Y <| Za Y <| Z0 <| Zn [13, 14, 0, 3, 4, 5, 6, 7, 8, 10] ?_
     refine nx_againB (e' := [(13, _), (14, _)]) (m := _) (H' := _) (by exact ⟨j + 1, _, rfl, by omega, rfl, rfl⟩)
    first | rw [decide_eq_false hgk] | rw [hgk] | skip
    refine lin_wg (D' := 7) 2 Y rfl rfl rfl (p_move Y) ?_
    refine lin_wg (D' := 15) 3 Y rfl rfl rfl (p_move Y) ?_
    (refine lin_wg (D' := 31) 4 Y rfl rfl rfl (p_indexAddr_nat underlying49 sizeOf55 Y Y ?_) ?_; (focus (omega)))
    refine lin_wg (D' := 63) 5 Y rfl rfl rfl (p_fieldAddr1 (off := 0) underlying55 rfl rfl sizeOf3 Y) ?_
    refine lin_rg (D' := 127) 6 Y rfl rfl rfl Wh (p_load isAgg3 Y (by simpa using hy0)) ?_
    refine lin_wg (D' := 255) 7 Y rfl rfl rfl (p_fieldAddr0 (off := 0) underlying55 rfl rfl sizeOf3 Y) ?_
    refine lin_rg (D' := 511) 8 Y rfl rfl rfl Wh (p_load isAgg3 Y (by rfl)) ?_
    refine lin_wg (D' := 1023) 9 Y rfl rfl rfl (p_eql Y Y) ?_
    refine lin_wg (D' := 2047) 10 Y rfl rfl rfl (p_move Y) ?_
    refine lin_split (t := 114) Y (fun hgk => ?_) (fun hgk => ?_)
    ·
     first | rw [decide_eq_true hgk] | rw [hgk] | skip
     refine lin_wg (D' := 4095) 11 Y rfl rfl rfl (p_move Y) ?_
     refine lin_wg (D' := 8191) 12 Y rfl rfl rfl (p_move Y) ?_
     (refine lin_wg (D' := 16383) 13 Y rfl rfl rfl (p_indexAddr_nat underlying49 sizeOf55 Y Y ?_) ?_; (focus (omega)))
     refine lin_wg (D' := 32767) 14 Y rfl rfl rfl (p_fieldAddr1 (off := 1) underlying55 rfl rfl sizeOf3 Y) ?_
     refine lin_rg (D' := 65535) 15 Y rfl rfl rfl Wh (p_load isAgg3 Y (by simpa using hy1)) ?_
     refine lin_wg (D' := 131071) 16 Y rfl rfl rfl (p_fieldAddr0 (off := 1) underlying55 rfl rfl sizeOf3 Y) ?_
     refine lin_rg (D' := 262143) 17 Y rfl rfl rfl Wh (p_load isAgg3 Y (by rfl)) ?_
     refine lin_wg (D' := 524287) 18 Y rfl rfl rfl (p_eql Y Y) ?_
     refine lin_wg (D' := 1048575) 19 Y rfl rfl rfl (p_pick_t Y Y) ?_
     refine Zi 2097151 20 rfl (p_pick_f Y Y) <| Zi 4194303 21 rfl (p_assign Y) <| lin_nil ?_
     refine Zn [0, 3, 4, 5, 6, 7, 8, 10, 13, 14] ?_
     refine nx_block_normal <| Zx <| Zg <| Zm Y <| Ya (n := 1) Y Y <| Za Y <| Z0 <| Zn [13, 14, 0, 3, 4, 5, 6, 7, 8, 10] ?_
     refine nx_againB (e' := [(13, _), (14, _)]) (m := _) (H' := _) (by exact ⟨j + 1, _, rfl, by omega, rfl, rfl⟩)
    first | rw [decide_eq_false hgk] | rw [hgk] | skip
    refine Yk 4095 11 rfl <| Yk 8191 12 rfl <| Yk 16383 13 rfl <| Yk 32767 14 rfl <| Yk 65535 15 rfl <| Yk 131071 16 rfl <| Yk 262143 17 rfl <| Yk 524287 18 rfl <| lin_wg (D' := 1048575) 19 Y rfl rfl rfl (p_pick_f Y Y) ?_
    refine Zi 2097151 20 rfl (p_pick_f Y Y) <| Zi 4194303 21 rfl (p_assign Y) <| lin_nil ?_
    refine Zn [0, 3, 4, 5, 6, 7, 8, 10, 13, 14] ?_
    refine nx_block_normal <| Zx <| Zg <| Zm Y <| Ya (n := 1) Y Y <| Za Y <| Z0 <| Zn [13, 14, 0, 3, 4, 5, 6, 7, 8, 10] ?_
    refine nx_againB (e' := [(13, _), (14, _)]) (m := _) (H' := _) (by exact ⟨j + 1, _, rfl, by omega, rfl, rfl⟩)
   refine at_exit <| Zt <| Zt <| nx_block_exit <| Zx <| Zb [8, 13, 0, 3, 4, 5, 6, 7, 10] ?_
   refine at_cutB (e0 := [(8, _), (13, _)]) (H0 := []) (fun e H => (True) ∧ e = [] ∧ H = []) Wp ?hx_15 ?hy_15
   case hx_15 =>
    refine Zq <| Zg <| Zm Y <| Zm Y ?_
    refine ops_split_bool (t := 126) Y rfl (fun hgd => ?_) (fun hgd => ?_)
    ·
     refine op_skip Y rfl <| op_skip Y rfl <| op_skip Y rfl <| op_skip Y rfl <| op_skip Y rfl <| op_skip Y rfl <| op_skip Y rfl <| op_skip Y rfl <| op_skip Y rfl <| op_skip Y rfl <| op_skip Y rfl <| op_skip Y rfl <| op_skip Y rfl <| Zv (p_pick_t Y Y) <| Zm Y <| op_skip Y rfl <| op_skip Y rfl <| op_skip Y rfl <| op_skip Y rfl <| op_skip Y rfl <| op_skip Y rfl <| op_skip Y rfl <| Zv (p_pick_t Y Y) <| Z0 ?_
     refine Zn [0, 3, 4, 5, 6, 7, 10, 149] ?_
     refine Zx <| at_then Y <| at_exit <| Zt <| nx_block_exit <| Zx <| Zg <| Zm Y <| Ya (n := 1) Y Y <| Za Y <| Z0 <| Zn [6, 7, 0, 3, 4, 5] ?_
     refine nx_againB (e' := [(6, _), (7, _)]) (m := _) (H' := _) (by exact ⟨k + 1, _, cs, sl, rfl, ⟨by omega, by omega, hrl2⟩, rfl, rfl⟩)
    refine Yf 2 underlying55 rfl rfl sizeOf4 Y <| Yl isAgg4 Y ?_
    refine Zf Y Y ?_
    refine ops_split_bool (t := 129) Y rfl (fun hgd => ?_) (fun hgd => ?_)
    ·
     refine Yf 6 underlying55 rfl rfl sizeOf4 Y <| Yl isAgg4 Y ?_
     refine Yg (p_pick_t Y Y) <| Zf Y Y ?_
     refine ops_split_bool (t := 133) Y rfl (fun hgd => ?_) (fun hgd => ?_)
     ·
      refine Yf 3 underlying55 rfl rfl sizeOf53 Y <| op_rg Y Wh (p_load_agg (cs := #[_, _, _]) isAgg53 sizeOf53 Y (by (simp; done)) (by rfl)) rfl rfl ?_
      refine Yf 7 underlying55 rfl rfl sizeOf53 Y <| op_rg Y Wh (p_load_agg (cs := #[_, _, _]) isAgg53 sizeOf53 Y (by exact Nat.le_refl _) (by rfl)) rfl rfl ?_
      refine Yg (p_eql_arr3 (by kernel_rfl) underlying53 underlying3 isAgg3 sizeOf3 Y Y) ?_
      refine Yg (p_pick_t Y Y) <| Zv (p_pick_f Y Y) <| Zm Y ?_
      refine ops_split (t := 141) Y rfl (fun hgd => ?_) (fun hgd => ?_)
      ·
       refine op_skip Y rfl <| op_skip Y rfl <| op_skip Y rfl <| op_skip Y rfl <| op_skip Y rfl <| op_skip Y rfl <| op_skip Y rfl <| Zv (p_pick_t Y Y) <| Z0 <| Zn [0, 3, 4, 5, 6, 7, 10, 149] ?_
       refine Zx <| at_then Y <| at_exit <| Zt <| nx_block_exit <| Zx <| Zg <| Zm Y <| Ya (n := 1) Y Y <| Za Y <| Z0 <| Zn [6, 7, 0, 3, 4, 5] ?_
       refine nx_againB (e' := [(6, _), (7, _)]) (m := _) (H' := _) (by exact ⟨k + 1, _, cs, sl, rfl, ⟨by omega, by omega, hrl2⟩, rfl, rfl⟩)
      refine Zf Y Y <| Yg (p_gtr_nat (n := 0) Y Y) <| Zf Y Y ?_
      refine ops_split (t := 144) Y rfl (fun hgd => ?_) (fun hgd => ?_)
      ·
       refine Zf Y Y ?_
       (refine op_wg Y (p_rem_nat (n := 5) Y Y ?_) rfl rfl ?_; (focus (omega)))
       refine Yg (p_eql_nat (n := 0) Y Y) <| Yg (p_pick_t Y Y) <| Zv (p_pick_f Y Y) <| Z0 <| Zn [0, 3, 4, 5, 6, 7, 10, 149] ?_
       refine Zx ?_
       refine at_if Y (fun hgi => ?_) (fun hgi => ?_)
       ·
        refine at_exit <| Zt <| nx_block_exit <| Zx <| Zg <| Zm Y <| Ya (n := 1) Y Y <| Za Y <| Z0 <| Zn [6, 7, 0, 3, 4, 5] ?_
        refine nx_againB (e' := [(6, _), (7, _)]) (m := _) (H' := _) (by exact ⟨k + 1, _, cs, sl, rfl, ⟨by omega, by omega, hrl2⟩, rfl, rfl⟩)
       refine at_skip <| Zn [0, 3, 4, 5, 6, 7, 10] ?_
       refine nx_cutB (e' := []) (H' := _) (by exact ⟨trivial, rfl, rfl⟩)
      refine op_skip Y rfl <| op_skip Y rfl <| op_skip Y rfl <| Yg (p_pick_f Y Y) <| Zv (p_pick_f Y Y) <| Z0 <| Zn [0, 3, 4, 5, 6, 7, 10, 149] ?_
      refine Zx <| at_else Y <| at_skip <| Zn [0, 3, 4, 5, 6, 7, 10] ?_
      refine nx_cutB (e' := []) (H' := _) (by exact ⟨trivial, rfl, rfl⟩)
     refine op_skip Y rfl <| op_skip Y rfl <| op_skip Y rfl <| op_skip Y rfl <| op_skip Y rfl <| Yg (p_pick_f Y Y) <| Zv (p_pick_f Y Y) <| Zm Y <| Zf Y Y <| Yg (p_gtr_nat (n := 0) Y Y) <| Zf Y Y ?_
     refine ops_split (t := 144) Y rfl (fun hgd => ?_) (fun hgd => ?_)
     ·
      refine Zf Y Y ?_
      (refine op_wg Y (p_rem_nat (n := 5) Y Y ?_) rfl rfl ?_; (focus (omega)))
      refine Yg (p_eql_nat (n := 0) Y Y) <| Yg (p_pick_t Y Y) <| Zv (p_pick_f Y Y) <| Z0 <| Zn [0, 3, 4, 5, 6, 7, 10, 149] ?_
      refine Zx ?_
      refine at_if Y (fun hgi => ?_) (fun hgi => ?_)
      ·
       refine at_exit <| Zt <| nx_block_exit <| Zx <| Zg <| Zm Y <| Ya (n := 1) Y Y <| Za Y <| Z0 <| Zn [6, 7, 0, 3, 4, 5] ?_
       refine nx_againB (e' := [(6, _), (7, _)]) (m := _) (H' := _) (by exact ⟨k + 1, _, cs, sl, rfl, ⟨by omega, by omega, hrl2⟩, rfl, rfl⟩)
      refine at_skip <| Zn [0, 3, 4, 5, 6, 7, 10] ?_
      refine nx_cutB (e' := []) (H' := _) (by exact ⟨trivial, rfl, rfl⟩)
     refine op_skip Y rfl <| op_skip Y rfl <| op_skip Y rfl <| Yg (p_pick_f Y Y) <| Zv (p_pick_f Y Y) <| Z0 <| Zn [0, 3, 4, 5, 6, 7, 10, 149] ?_
     refine Zx <| at_else Y <| at_skip <| Zn [0, 3, 4, 5, 6, 7, 10] ?_
     refine nx_cutB (e' := []) (H' := _) (by exact ⟨trivial, rfl, rfl⟩)
    refine op_skip Y rfl <| op_skip Y rfl <| Yg (p_pick_f Y Y) <| Zf Y Y <| op_skip Y rfl <| op_skip Y rfl <| op_skip Y rfl <| op_skip Y rfl <| op_skip Y rfl <| Yg (p_pick_f Y Y) <| Zv (p_pick_f Y Y) <| Zm Y <| Zf Y Y <| Yg (p_gtr_nat (n := 0) Y Y) <| Zf Y Y ?_
    refine ops_split (t := 144) Y rfl (fun hgd => ?_) (fun hgd => ?_)
    ·
     refine Zf Y Y ?_
     (refine op_wg Y (p_rem_nat (n := 5) Y Y ?_) rfl rfl ?_; (focus (omega)))
     refine Yg (p_eql_nat (n := 0) Y Y) <| Yg (p_pick_t Y Y) <| Zv (p_pick_f Y Y) <| Z0 <| Zn [0, 3, 4, 5, 6, 7, 10, 149] ?_
     refine Zx ?_
     refine at_if Y (fun hgi => ?_) (fun hgi => ?_)
     ·
      refine at_exit <| Zt <| nx_block_exit <| Zx <| Zg <| Zm Y <| Ya (n := 1) Y Y <| Za Y <| Z0 <| Zn [6, 7, 0, 3, 4, 5] ?_
      refine nx_againB (e' := [(6, _), (7, _)]) (m := _) (H' := _) (by exact ⟨k + 1, _, cs, sl, rfl, ⟨by omega, by omega, hrl2⟩, rfl, rfl⟩)
     refine at_skip <| Zn [0, 3, 4, 5, 6, 7, 10] ?_
     refine nx_cutB (e' := []) (H' := _) (by exact ⟨trivial, rfl, rfl⟩)
    refine op_skip Y rfl <| op_skip Y rfl <| op_skip Y rfl <| Yg (p_pick_f Y Y) <| Zv (p_pick_f Y Y) <| Z0 <| Zn [0, 3, 4, 5, 6, 7, 10, 149] ?_
    refine Zx <| at_else Y <| at_skip <| Zn [0, 3, 4, 5, 6, 7, 10] ?_
    refine nx_cutB (e' := []) (H' := _) (by exact ⟨trivial, rfl, rfl⟩)
   rintro _ _ ⟨_, rfl, rfl⟩
   refine Zq <| Zg <| Zm Y <| Zv (p_len_slice underlying49 Y) <| Za Y <| Z0 <| Zx <| Zb [15, 0, 3, 4, 5, 6, 7, 10] ?_
   refine at_cutB (e0 := [(15, _)]) (H0 := []) (fun e H => ∃ (j : Nat), (j ≤ cs.length) ∧ e = [(15, .int .i64 (j : Int))] ∧ H = []) Wp ?hx_27 ?hy_27
   case hx_27 =>
    refine at_block <| Zb [15, 0, 3, 4, 5, 6, 7, 10] ?_
    refine at_loopB (e0 := [(15, _)]) (H0 := _) (n := _) (fun m e H => ∃ (j : Nat), m = 0 + j ∧ (j ≤ cs.length) ∧ e = [(15, .int .i64 (j : Int))] ∧ H = []) (by exact ⟨cs.length, rfl, Nat.le_refl _, rfl, rfl⟩) Wp ?_
    rintro _ _ _ ⟨j, rfl, hj, rfl, rfl⟩
    refine Zq <| Zq <| at_draw (n := 35) (0 :: 1 :: 3 :: 7 :: 7 :: 23 :: 63 :: 127 :: 255 :: 7 :: 519 :: 2047 :: 4095 :: 8191 :: 8191 :: 24575 :: 65535 :: 131071 :: 262143 :: 8191 :: 532479 :: 2097151 :: 4194303 :: 8388607 :: 8388607 :: 25165823 :: 67108863 :: 134217727 :: 268435455 :: 8388607 :: 545259519 :: 2147483647 :: 4294967295 :: 8589934591 :: 17179869183 :: []) 0 (by kernel_rfl) (by kernel_rfl) rfl ?_
    refine Zi 1 0 rfl (p_move Y) <| Zi 3 1 rfl (p_gtr_nat (n := 0) Y Y) <| Zi 7 2 rfl (p_move Y) ?_
    refine lin_split (t := 154) Y (fun hjp => ?_) (fun hjp => ?_)
    ·
     first | rw [decide_eq_true hjp] | rw [hjp] | skip
     obtain ⟨y, hy⟩ : ∃ y, cs[j - 1]? = some y := ⟨_, List.getElem?_eq_getElem (by omega)⟩
     obtain ⟨gl, capl, curl, zl, hvl, hsl, hlel, hinl⟩ := rowS_some hrl2 (by omega)
     injection hvl with hv1 hv2 hv3
     subst hv1 hsl
     obtain ⟨hy0, hy1⟩ := chg_at hinl hy
     refine lin_wg (D' := 15) 3 Y rfl rfl rfl (p_move Y) ?_
     refine lin_wg (D' := 31) 4 Y rfl rfl rfl (p_move Y) ?_
     (refine lin_wg (D' := 63) 5 Y rfl rfl rfl (p_sub_nat (n := 1) Y Y ?_ ?_) ?_; (focus (omega)); (focus (omega)))
     (refine lin_wg (D' := 127) 6 Y rfl rfl rfl (p_indexAddr_nat underlying49 sizeOf55 Y Y ?_) ?_; (focus (omega)))
     refine lin_wg (D' := 255) 7 Y rfl rfl rfl (p_fieldAddr1 (off := 0) underlying55 rfl rfl sizeOf3 Y) ?_
     refine lin_rg (D' := 511) 8 Y rfl rfl rfl Wh (p_load isAgg3 Y (by simpa using hy0)) ?_
     refine lin_wg (D' := 1023) 9 Y rfl rfl rfl (p_fieldAddr0 (off := 0) underlying55 rfl rfl sizeOf3 Y) ?_
     refine lin_rg (D' := 2047) 10 Y rfl rfl rfl Wh (p_load isAgg3 Y (by rfl)) ?_
     refine lin_wg (D' := 4095) 11 Y rfl rfl rfl (p_gtr Y Y) ?_
     refine lin_wg (D' := 8191) 12 Y rfl rfl rfl (p_move Y) ?_
     refine lin_split (t := 164) Y (fun hgm => ?_) (fun hgm => ?_)
     ·
      first | rw [decide_eq_true hgm] | rw [hgm] | skip
      refine Yk 16383 13 rfl <| Yk 32767 14 rfl <| Yk 65535 15 rfl <| Yk 131071 16 rfl <| Yk 262143 17 rfl <| Yk 524287 18 rfl <| Yk 1048575 19 rfl <| Yk 2097151 20 rfl <| Yk 4194303 21 rfl <| Yk 8388607 22 rfl <| Yk 16777215 23 rfl <| Yk 33554431 24 rfl <| Yk 67108863 25 rfl <| Yk 134217727 26 rfl <| Yk 268435455 27 rfl <| Yk 536870911 28 rfl <| Yk 1073741823 29 rfl <| Yk 2147483647 30 rfl <| Yk 4294967295 31 rfl <| Yk 8589934591 32 rfl <| lin_wg (D' := 17179869183) 33 Y rfl rfl rfl (p_pick_t Y Y) ?_
      refine Zi 34359738367 34 rfl (p_pick_t Y Y) <| lin_nil ?_
      refine Zn [0, 3, 4, 5, 6, 7, 10, 15, 186] ?_
      refine Zx <| at_then Y <| at_skip <| Zx <| at_block <| Zg <| Zm Y <| Yb (n := 1) Y Y <| Za Y <| Z0 <| nx_block_normal <| Zn [15, 0, 3, 4, 5, 6, 7, 10] ?_
      refine nx_againB (e' := [(15, _)]) (m := _) (H' := _) (by exact ⟨j - 1, rfl, by omega, rfl, rfl⟩)
     first | rw [decide_eq_false hgm] | rw [hgm] | skip
     refine lin_wg (D' := 16383) 13 Y rfl rfl rfl (p_move Y) ?_
     refine lin_wg (D' := 32767) 14 Y rfl rfl rfl (p_move Y) ?_
     (refine lin_wg (D' := 65535) 15 Y rfl rfl rfl (p_sub_nat (n := 1) Y Y ?_ ?_) ?_; (focus (omega)); (focus (omega)))
     (refine lin_wg (D' := 131071) 16 Y rfl rfl rfl (p_indexAddr_nat underlying49 sizeOf55 Y Y ?_) ?_; (focus (omega)))
     refine lin_wg (D' := 262143) 17 Y rfl rfl rfl (p_fieldAddr1 (off := 0) underlying55 rfl rfl sizeOf3 Y) ?_
     refine lin_rg (D' := 524287) 18 Y rfl rfl rfl Wh (p_load isAgg3 Y (by simpa using hy0)) ?_
     refine lin_wg (D' := 1048575) 19 Y rfl rfl rfl (p_fieldAddr0 (off := 0) underlying55 rfl rfl sizeOf3 Y) ?_
     refine lin_rg (D' := 2097151) 20 Y rfl rfl rfl Wh (p_load isAgg3 Y (by rfl)) ?_
     refine lin_wg (D' := 4194303) 21 Y rfl rfl rfl (p_eql Y Y) ?_
     refine lin_wg (D' := 8388607) 22 Y rfl rfl rfl (p_move Y) ?_
     refine lin_split (t := 174) Y (fun hgm => ?_) (fun hgm => ?_)
     ·
      first | rw [decide_eq_true hgm] | rw [hgm] | skip
      refine lin_wg (D' := 16777215) 23 Y rfl rfl rfl (p_move Y) ?_
      refine lin_wg (D' := 33554431) 24 Y rfl rfl rfl (p_move Y) ?_
      (refine lin_wg (D' := 67108863) 25 Y rfl rfl rfl (p_sub_nat (n := 1) Y Y ?_ ?_) ?_; (focus (omega)); (focus (omega)))
      (refine lin_wg (D' := 134217727) 26 Y rfl rfl rfl (p_indexAddr_nat underlying49 sizeOf55 Y Y ?_) ?_; (focus (omega)))
      refine lin_wg (D' := 268435455) 27 Y rfl rfl rfl (p_fieldAddr1 (off := 1) underlying55 rfl rfl sizeOf3 Y) ?_
      refine lin_rg (D' := 536870911) 28 Y rfl rfl rfl Wh (p_load isAgg3 Y (by simpa using hy1)) ?_
      refine lin_wg (D' := 1073741823) 29 Y rfl rfl rfl (p_fieldAddr0 (off := 1) underlying55 rfl rfl sizeOf3 Y) ?_
      refine lin_rg (D' := 2147483647) 30 Y rfl rfl rfl Wh (p_load isAgg3 Y (by rfl)) ?_
      refine lin_wg (D' := 4294967295) 31 Y rfl rfl rfl (p_gtr Y Y) ?_
      refine lin_wg (D' := 8589934591) 32 Y rfl rfl rfl (p_pick_t Y Y) ?_
      refine lin_wg (D' := 17179869183) 33 Y rfl rfl rfl (p_pick_f Y Y) ?_
      refine Zi 34359738367 34 rfl (p_pick_t Y Y) <| lin_nil ?_
      refine Zn [0, 3, 4, 5, 6, 7, 10, 15, 186] ?_
      refine Zx ?_
      refine at_if Y (fun hgj => ?_) (fun hgj => ?_)
      ·
       refine at_skip <| Zx <| at_block <| Zg <| Zm Y <| Yb (n := 1) Y Y <| Za Y <| Z0 <| nx_block_normal <| Zn [15, 0, 3, 4, 5, 6, 7, 10] ?_
       refine nx_againB (e' := [(15, _)]) (m := _) (H' := _) (by exact ⟨j - 1, rfl, by omega, rfl, rfl⟩)
      refine at_exit <| Zt <| Zt <| nx_block_exit <| Zn [15, 0, 3, 4, 5, 6, 7, 10] ?_
      refine nx_cutB (e' := [(15, _)]) (H' := _) (by exact ⟨j, hj, rfl, rfl⟩)
     first | rw [decide_eq_false hgm] | rw [hgm] | skip
     refine Yk 16777215 23 rfl <| Yk 33554431 24 rfl <| Yk 67108863 25 rfl <| Yk 134217727 26 rfl <| Yk 268435455 27 rfl <| Yk 536870911 28 rfl <| Yk 1073741823 29 rfl <| Yk 2147483647 30 rfl <| Yk 4294967295 31 rfl <| lin_wg (D' := 8589934591) 32 Y rfl rfl rfl (p_pick_f Y Y) ?_
     refine lin_wg (D' := 17179869183) 33 Y rfl rfl rfl (p_pick_f Y Y) ?_
     refine Zi 34359738367 34 rfl (p_pick_t Y Y) <| lin_nil ?_
     refine Zn [0, 3, 4, 5, 6, 7, 10, 15, 186] ?_
     refine Zx <| at_else Y <| at_exit <| Zt <| Zt <| nx_block_exit <| Zn [15, 0, 3, 4, 5, 6, 7, 10] ?_
     refine nx_cutB (e' := [(15, _)]) (H' := _) (by exact ⟨j, hj, rfl, rfl⟩)
    first | rw [decide_eq_false hjp] | rw [hjp] | skip
    refine Yk 15 3 rfl <| Yk 31 4 rfl <| Yk 63 5 rfl <| Yk 127 6 rfl <| Yk 255 7 rfl <| Yk 511 8 rfl <| Yk 1023 9 rfl <| Yk 2047 10 rfl <| Yk 4095 11 rfl <| Yk 8191 12 rfl <| Yk 16383 13 rfl <| Yk 32767 14 rfl <| Yk 65535 15 rfl <| Yk 131071 16 rfl <| Yk 262143 17 rfl <| Yk 524287 18 rfl <| Yk 1048575 19 rfl <| Yk 2097151 20 rfl <| Yk 4194303 21 rfl <| Yk 8388607 22 rfl <| Yk 16777215 23 rfl <| Yk 33554431 24 rfl <| Yk 67108863 25 rfl <| Yk 134217727 26 rfl ?_
    refine Yk 268435455 27 rfl <| Yk 536870911 28 rfl <| Yk 1073741823 29 rfl <| Yk 2147483647 30 rfl <| Yk 4294967295 31 rfl <| Yk 8589934591 32 rfl <| Yk 17179869183 33 rfl <| Zi 34359738367 34 rfl (p_pick_f Y Y) <| lin_nil ?_
    refine Zn [0, 3, 4, 5, 6, 7, 10, 15, 186] ?_
    refine Zx <| at_else Y <| at_exit <| Zt <| Zt <| nx_block_exit <| Zn [15, 0, 3, 4, 5, 6, 7, 10] ?_
    refine nx_cutB (e' := [(15, _)]) (H' := _) (by exact ⟨j, hj, rfl, rfl⟩)
   rintro _ _ ⟨j, hj, rfl, rfl⟩
   refine at_draw (n := 12) (0 :: 0 :: 0 :: 7 :: 0 :: 16 :: 0 :: 0 :: 192 :: 496 :: 1023 :: 2047 :: []) 1568 (by kernel_rfl) (by kernel_rfl) rfl ?_
   refine Zi 1 0 rfl (p_move Y) <| Zi 3 1 rfl (p_move Y) <| Zi 7 2 rfl (p_move Y) ?_
   (refine lin_v (D' := 15) 3 (p_slice_slice3_to underlying49 sizeOf55 Y Y Y ?_) ?_; (focus (omega)))
   refine lin_r (D' := 31) 4 rfl rfl rfl Wh (p_load_agg (cs := #[_, _, _, _, _, _, _, _, _, _]) isAgg55 sizeOf55 Y (by exact Nat.le_refl _) (by rfl)) ?_
   refine Zi 95 6 rfl (p_move Y) <| Zi 223 7 rfl (p_move Y) ?_
   (refine lin_v (D' := 479) 8 (p_slice_slice_from underlying49 sizeOf55 Y Y ?_) ?_; (focus (omega)))
   refine Yz 5 16 511 [4] [false] [] rfl Y rfl rfl rfl rfl (w_buildSlice (vs := [_]) (cs := [_, _, _, _, _, _, _, _, _, _]) underlying49 sizeOf55 zeroValue55 Y rfl rfl rfl rfl rfl) ?_
   rintro _ _ ⟨gb, rfl, rfl⟩
   refine ⟨keep_nil, ?_⟩
   refine Yz 9 496 1023 [] [] [] rfl Y rfl rfl rfl rfl (w_append_subS (by_ := 80) (sz := 10) underlying49 (rfl : Tryz.prog.info? 55 = some Tryz.t55) rfl rfl rfl rfl Y (rowS_new 10 55 gb 1 (chgCells [c]) rfl (by decide)) Y (subS_from hrl2 j (cs.length - j) _ (by omega)) Wo Wo (by exact fun u hu => chgCells_one cs u (List.mem_of_mem_drop hu)) (by omega) (by omega)) ?_
   rintro _ _ ⟨sa9, hra9, rfl⟩
   refine ⟨keep_nil, ?_⟩
   obtain ⟨ga9, ca9, rfl⟩ := hra9.form
   refine Yz 10 1023 2047 [] [] [] rfl Y rfl rfl rfl rfl (w_append_freshS (by_ := 80) (sz := 10) underlying49 (rfl : Tryz.prog.info? 55 = some Tryz.t55) rfl rfl rfl rfl Y (subS_take hrl2 j _ hj) Y (subS_of hra9) Wo Wo (by omega) (by omega) (by omega)) ?_
   rintro _ _ ⟨sb9, hrb9, rfl⟩
   refine ⟨keep_nil, ?_⟩
   have hnew := rowS_eq hrb9 (n' := (cs.take j ++ [c] ++ cs.drop j).length) (xs' := chgCells (cs.take j ++ [c] ++ cs.drop j)) (by simp only [List.length_append, List.length_take, List.length_drop, List.length_singleton]; omega) (by rw [chgCells_app, chgCells_app, chgCells_take, chgCells_drop, List.append_assoc])
   obtain ⟨gb9, cb9, rfl⟩ := hrb9.form
   refine Zi 4095 11 rfl (p_assign Y) <| lin_nil ?_
   refine nx_block_normal <| Zx <| Zg <| Zm Y <| Ya (n := 1) Y Y <| Za Y <| Z0 <| Zn [6, 7, 0, 3, 4, 5] ?_
   refine nx_againB (e' := [(6, _), (7, _)]) (m := _) (H' := _) (by exact ⟨k + 1, _, cs.take j ++ [c] ++ cs.drop j, _, rfl, ⟨by omega, by simp only [List.length_append, List.length_take, List.length_drop, List.length_singleton]; omega, hnew⟩, rfl, rfl⟩)
  refine at_exit <| Zt <| Zt <| nx_block_exit <| Zx <| Zq <| Zg <| Zm Y <| Zp Y rfl <| Zh 1 underlying71 rfl rfl sizeOf3 Y <| Zl isAgg3 Y ?_
  refine Ya (n := 1) Y Y <| Zm Y <| Zv (p_build (vs := [(0, _), (1, _)]) (cs := #[_, _]) Y (run_build_struct (pl := #[(0, 1), (1, 1)]) zeroValue51 underlying51 (fun _ => by kernel_rfl) rfl)) ?_
  refine Ze (w_alloc zeroValue51 (cs := #[_, _]) rfl) ?_
  rintro _ _ ⟨rb, rfl, rfl⟩
  refine Xe (w_store_agg sizeOf51 Y Y (by (simp [Value.oneCell', Value.cells]; done)) Wu (by exact (rfl : _ = (#[.int .i64 ((rcs.length : Int) + 1), .slice gw cs.length cw] : Array Value))) (by first | rfl | (simp; done)) (by exact Nat.le_refl _) (by exact free_zero _)) ?_
  refine Z0 <| Zx <| Zq <| Zg <| Zm Y <| Zo Wh (p_load_agg (cs := #[_, _]) isAgg51 sizeOf51 Y (by exact Nat.le_refl _) (by rfl)) ?_
  refine Zc [_, _] Y call21 Y rfl (r4_apply sp (rcs.length : Int) ((rcs.length : Int) + 1) _ (rowsOf rcs) sv sl gw cw cs hrw (chgsIn_of hrl2 (by omega)) hsr hr2 (by omega)) ?_
  rintro _ _ ⟨_, hres, rfl⟩
  rcases hres with ⟨hap, v2, sv2, rfl, hrw2, rfl⟩ | ⟨hap, rfl, rfl⟩
  ·
   refine Za Y <| Z0 <| Zn [0, 3, 4, 5, 16, 17] ?_
   refine Zx <| Zq <| Zg <| Zm Y <| Zv (p_eql_nat (n := 0) Y Y) <| Z0 <| Zx ?_
   refine at_if Y (fun he => ?_) (fun he => ?_)
   ·
    have hlog2 : LogOk (rcs ++ [⟨(rcs.length : Int) + 1, gw, cw, cs⟩]) := hlog.snoc hap (by show cs.length ≤ 3; omega)
    have hpos3 : (((rcs ++ [(⟨(rcs.length : Int) + 1, gw, cw, cs⟩ : RecM)]).length : Nat) : Int) = (rcs.length : Int) + 1 := by rw [List.length_append, List.length_singleton]; omega
    have hrw3 : RowS 5 67 v2 (rowsOf (rcs ++ [⟨(rcs.length : Int) + 1, gw, cw, cs⟩])).length (rowCells (rowsOf (rcs ++ [⟨(rcs.length : Int) + 1, gw, cw, cs⟩]))) sv2 := by rw [rowsOf_snoc]; exact hrw2
    have hMM3 : ∀ r ∈ rcs ++ [(⟨(rcs.length : Int) + 1, gw, cw, cs⟩ : RecM)], ChgsIn (MM ++ sl) (.slice r.q r.cs.length r.cap) r.cs := by
      intro r hr
      rcases List.mem_append.1 hr with hr | hr
      · exact chgsIn_more (hMM r hr) sl
      · rw [List.mem_singleton.1 hr]; exact chgsIn_right (chgsIn_of hrl2 (by omega)) MM
    refine at_join (s1 := MM) (s2 := sl) Wo Wo ?_
    refine Zg <| Zm Y <| Zo Wh (p_load_agg (cs := #[_, _]) isAgg51 sizeOf51 Y (by exact Nat.le_refl _) (by rfl)) ?_
    refine Ze (w_buildSlice (vs := [_]) (cs := [_, _]) underlying25 sizeOf51 zeroValue51 Y rfl rfl rfl rfl rfl) ?_
    rintro _ _ ⟨gq, rfl, rfl⟩
    refine Ze (w_append_subS (by_ := 32) (sz := 2) underlying25 (rfl : Tryz.prog.info? 51 = some Tryz.t51) rfl rfl rfl rfl Y (hro) Y (subS_new 2 gq 1 1 51 (0, 0) [.int .i64 ((rcs.length : Int) + 1), .slice gw cs.length cw] rfl) Wo Wo (by simp [Value.oneCell']) (by omega) (by omega)) ?_
    rintro _ _ ⟨sO, hrO, rfl⟩
    have hro3 := rowS_eq hrO (n' := (rcs ++ [(⟨(rcs.length : Int) + 1, gw, cw, cs⟩ : RecM)]).length) (xs' := recCells (rcs ++ [⟨(rcs.length : Int) + 1, gw, cw, cs⟩])) (by rw [List.length_append, List.length_singleton]) (by rw [recCells_app]; rfl)
    obtain ⟨gO, cO, rfl⟩ := hrO.form
    refine Za Y <| Z0 <| nx_block_normal <| Zx <| Zg <| Zm Y <| Ya (n := 1) Y Y <| Za Y <| Z0 <| Zn [3, 5, 0, 4] ?_
    refine nx_againB (e' := [(3, _), (5, _)]) (m := _) (H' := _) (by exact ⟨i + 1, rcs ++ [⟨(rcs.length : Int) + 1, gw, cw, cs⟩], _, _, sv2, sO, MM ++ sl, rfl, ⟨by omega, hlog2, by rw [List.length_append, List.length_singleton]; omega, hrw3, hro3, hMM3⟩, rfl, by rw [hpos3]⟩)
   exact absurd rfl he
  refine Za Y <| Z0 <| Zn [0, 3, 4, 5, 16, 17] ?_
  refine Zx <| Zq <| Zg <| Zm Y <| Zv (p_eql_nat (n := 0) Y Y) <| Z0 <| Zx ?_
  refine at_if Y (fun he => ?_) (fun he => ?_)
  ·
   cases he
  refine at_skip <| nx_block_normal <| Zx <| Zg <| Zm Y <| Ya (n := 1) Y Y <| Za Y <| Z0 <| Zn [3, 5, 0, 4] ?_
  refine nx_againB (e' := [(3, _), (5, _)]) (m := _) (H' := _) (by exact ⟨i + 1, rcs, _, _, sv, so, MM, rfl, ⟨by omega, hlog, by omega, hrw, hro, hMM⟩, rfl, rfl⟩)
 refine at_exit <| Zt <| Zt <| nx_block_exit <| Zx <| Zq <| at_join (s1 := so) (s2 := MM) Wo Wo ?_
 refine Zg <| Zm Y <| Za Y <| Z0 <| Zx <| at_ret ?_
 refine nx_end1 rfl results5 Y (by exact ⟨rcs, _, hlog, by omega, recsIn_of hro (by omega) hMM, rfl⟩)

end Go.Proofs.YtkgmgmkbgnkdnaaGreatDoor
