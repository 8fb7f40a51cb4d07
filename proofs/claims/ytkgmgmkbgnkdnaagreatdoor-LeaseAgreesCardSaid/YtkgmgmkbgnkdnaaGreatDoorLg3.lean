/- Records in plain words; ValidRecord of the reference. -/
/- The reference of layer 4: place, Get. -/
import Derived.Test.YtkgmgmkbgnkdnaaGreatDoorEz
import Derived.Test.YtkgmgmkbgnkdnaaGreatDoorLg1
namespace Go.Proofs.YtkgmgmkbgnkdnaaGreatDoor
open Go.Proofs.Tryz
open Go Go.RowKit Gw
set_option linter.unusedVariables false
set_option linter.unusedSimpArgs false
set_option maxRecDepth 100000
attribute [local irreducible] Gw.At Gw.Nx Gw.Ops
def ChgsIn (M : List Chunk) (v : Value) (cs : List Chg) : Prop := ∃ p cap, v = .slice p cs.length cap ∧ cs.length ≤ maxLen ∧ ∀ (i : Nat) (c : Chg), cs[i]? = some c → ∃ g off cur T zz, p = some ⟨g, off, none⟩ ∧ (g, Obj.cells cur T zz) ∈ M ∧ off + i * 10 + 10 ≤ cur.size ∧ cur.extract (off + i * 10) (off + i * 10 + 10) = #[.int .i64 c.t, .int .i64 c.k, .bool c.had, .int .i64 c.o.a, .int .i64 c.o.b, .int .i64 c.o.c, .bool c.has, .int .i64 c.n.a, .int .i64 c.n.b, .int .i64 c.n.c]
def Chg.lt (b c : Chg) : Prop := b.t < c.t ∨ b.t = c.t ∧ b.k < c.k
instance (b c : Chg) : Decidable (b.lt c) := inferInstanceAs (Decidable (_ ∨ _))
structure RecOk (p : Int) (cs : List Chg) : Prop where
  pos : 1 ≤ p ∧ p ≤ 10000
  len : 1 ≤ cs.length ∧ cs.length ≤ 8
  all : ∀ (i : Nat) (c : Chg), cs[i]? = some c → c.ok
  ord : ∀ (i : Nat) (b c : Chg), cs[i]? = some b → cs[i + 1]? = some c → b.lt c
noncomputable instance (p : Int) (cs : List Chg) : Decidable (RecOk p cs) := Classical.propDecidable _
theorem all_more {cs : List Chg} {i : Nat} {x : Chg} (h : ∀ (j : Nat) (c : Chg), j < i → cs[j]? = some c → c.ok) (hx : cs[i]? = some x) (ho : x.ok) : ∀ (j : Nat) (c : Chg), j < i + 1 → cs[j]? = some c → c.ok := by
  intro j c hj hc
  rcases Nat.lt_or_ge j i with h9 | h9
  · exact h j c h9 hc
  · have e : j = i := by omega
    rw [e, hx] at hc; injection hc with hc; rw [← hc]; exact ho
theorem ord_more {cs : List Chg} {i : Nat} {x : Chg} (h : ∀ (j : Nat) (b c : Chg), j + 1 < i → cs[j]? = some b → cs[j + 1]? = some c → b.lt c) (hx : cs[i]? = some x) (ho : i = 0 ∨ ∃ y, cs[i - 1]? = some y ∧ y.lt x) : ∀ (j : Nat) (b c : Chg), j + 1 < i + 1 → cs[j]? = some b → cs[j + 1]? = some c → b.lt c := by
  intro j b c hj hb hc
  rcases Nat.lt_or_ge (j + 1) i with h9 | h9
  · exact h j b c h9 hb hc
  · have e : j + 1 = i := by omega
    rw [e, hx] at hc; injection hc with hc
    rcases ho with h0 | ⟨y, hy, hl⟩
    · omega
    · rw [show i - 1 = j by omega, hb] at hy; injection hy with hy; rw [hy, ← hc]; exact hl

theorem r3_validr (p : Int) (q : Option Addr) (cap : Nat) (cs : List Chg) (M : List Chunk) (hO : ChgsIn M (.slice q cs.length cap) cs) : DoesR Tryz.prog 46 #[.agg #[.int .i64 p, .slice q cs.length cap]] [M] (.bool (decide (RecOk p cs))) := by
 have hml : maxLen = 9223372036854775807 := rfl
 obtain ⟨p9, cap9, e9, hol, hg⟩ := hO
 injection e9 with e91 e92 e93
 subst e91 e93
 refine spec_enter func46 rfl ntmps46 rfl ?_
 intro u R
 refine Zb [0] ?_
 refine Zq <| Zg <| Ze (w_box Y (cs := #[_, _]) rfl) ?_
 rintro _ _ ⟨b1, rfl, rfl⟩
 refine Za Y <| Z0 <| Zx <| Zq <| Zq <| Zg <| Zh 0 underlying51 rfl rfl sizeOf3 Y <| Zl isAgg3 Y ?_
 refine Xr [_, _, _] Y call94 Y rfl (r3_within _ _ _) ?_
 refine Zv (p_not_dec Y) <| Zm Y ?_
 refine ops_split (t := 10) Y rfl (fun hp => ?_) (fun hp => ?_)
 ·
  refine op_skip Y rfl <| op_skip Y rfl <| op_skip Y rfl <| op_skip Y rfl <| op_skip Y rfl <| Zv (p_pick_t Y Y) <| Z0 <| Zn [1, 16] ?_
  refine Zx <| at_then Y <| Zq <| Zg <| Za Y <| Z0 <| Zx <| at_ret <| Zt ?_
  refine nx_end1 rfl results46 Y (by exact ⟨by rw [decide_eq_false (fun h9 : RecOk p cs => by have h91 := h9.pos; have h92 := h9.len; first | exact hp h91 | (apply hl; omega))], rfl⟩)
 refine Yf 1 underlying51 rfl rfl sizeOf49 Y <| Yl isAgg49 Y ?_
 refine Yg (p_len_slice underlying49 Y) <| Xr [_, _, _] Y call94 Y rfl (r3_within _ _ _) ?_
 refine Yg (p_not_dec Y) <| Zv (p_pick_f Y Y) <| Z0 <| Zn [1, 16] ?_
 refine Zx ?_
 refine at_if Y (fun hl => ?_) (fun hl => ?_)
 ·
  refine Zq <| Zg <| Za Y <| Z0 <| Zx <| at_ret <| Zt ?_
  refine nx_end1 rfl results46 Y (by exact ⟨by rw [decide_eq_false (fun h9 : RecOk p cs => by have h91 := h9.pos; have h92 := h9.len; first | exact hp h91 | (apply hl; omega))], rfl⟩)
 refine at_skip <| Zx <| Zq <| Zq <| Zg <| Za Y <| Z0 <| Zx <| at_block <| Zb [3, 1] ?_
 refine at_loopB (e0 := [(3, _)]) (H0 := _) (n := _) (fun m e H => ∃ (i : Nat), m = cs.length - i ∧ (i ≤ cs.length ∧ (∀ (j : Nat) (c : Chg), j < i → cs[j]? = some c → c.ok) ∧ (∀ (j : Nat) (b c : Chg), j + 1 < i → cs[j]? = some b → cs[j + 1]? = some c → b.lt c)) ∧ e = [(3, .int .i64 (i : Int))] ∧ H = []) (by exact ⟨0, rfl, ⟨by omega, by intro j c hj; omega, by intro j b c hj; omega⟩, rfl, rfl⟩) Wp ?_
 rintro _ _ _ ⟨i, rfl, ⟨hi, hall, hord⟩, rfl, rfl⟩
 refine Zq <| Zq <| Zg <| Zm Y <| Zh 1 underlying51 rfl rfl sizeOf49 Y <| Zl isAgg49 Y ?_
 refine Zv (p_len_slice underlying49 Y) <| Zv (p_lss_nat Y Y) <| Z0 <| Zx ?_
 refine at_if Y (fun hlt => ?_) (fun hlt => ?_)
 ·
  refine at_skip <| Zx <| Zq <| at_block <| Zq ?_
  obtain ⟨x, hx⟩ : ∃ x, cs[i]? = some x := ⟨_, List.getElem?_eq_getElem hlt⟩
  obtain ⟨g, off, cur, T, zz, rfl, hm, hsz, hex⟩ := hg i x hx
  refine Zg <| Zh 1 underlying51 rfl rfl sizeOf49 Y <| Zl isAgg49 Y ?_
  refine Zm Y ?_
  (refine op_v (p_indexAddr_nat underlying49 sizeOf55 Y Y ?_) ?_; (focus (first | omega | decide | (simp; done))))
  refine op_rm (cs := [(g, .cells cur T zz)]) (by simp [hm]) (p_load_agg (cs := #[.int .i64 x.t, .int .i64 x.k, .bool x.had, .int .i64 x.o.a, .int .i64 x.o.b, .int .i64 x.o.c, .bool x.has, .int .i64 x.n.a, .int .i64 x.n.b, .int .i64 x.n.c]) isAgg55 sizeOf55 Y (by omega) hex) rfl rfl ?_
  refine Ze (w_alloc zeroValue55 (cs := #[_, _, _, _, _, _, _, _, _, _]) rfl) ?_
  rintro _ _ ⟨b2, rfl, rfl⟩
  refine Xe (w_store_agg sizeOf55 Y Y (by (simp [Value.oneCell']; done)) Wu (by rfl) (by first | rfl | (simp; done)) Wb (by exact free_zero _)) ?_
  refine Z0 <| Zx <| Zq <| Zq <| Zg <| Zo Wh (p_load_agg (cs := #[_, _, _, _, _, _, _, _, _, _]) isAgg55 sizeOf55 Y Wn (by rfl)) ?_
  refine Xr [_] Y call95 Y rfl (r3_validc x) ?_
  refine Zv (p_not_dec Y) <| Z0 <| Zn [1, 3, 4, 31] ?_
  refine Zx ?_
  refine at_if Y (fun hbad => ?_) (fun hbad => ?_)
  ·
   refine Zq <| Zg <| Za Y <| Z0 <| Zx <| at_ret <| Zt <| nx_block_ret <| Zt <| Zt <| nx_block_ret <| Zt ?_
   refine nx_end1 rfl results46 Y (by exact ⟨by rw [decide_eq_false (fun h9 : RecOk p cs => hbad (h9.all i x hx))], rfl⟩)
  refine at_skip <| Zx <| Zq <| Zg <| Zm Y <| Zv (p_gtr_nat (n := 0) Y Y) <| Z0 <| Zx ?_
  refine at_if Y (fun hpos => ?_) (fun hpos => ?_)
  ·
   refine Zq ?_
   obtain ⟨y, hy⟩ : ∃ y, cs[i - 1]? = some y := ⟨_, List.getElem?_eq_getElem (by omega)⟩
   obtain ⟨g2, off2, cur2, T2, zz2, e2, hm2, hsz2, hex2⟩ := hg (i - 1) y hy
   injection e2 with e2
   injection e2 with e21 e22
   subst e21 e22
   refine Zg <| Zh 1 underlying51 rfl rfl sizeOf49 Y <| Zl isAgg49 Y ?_
   refine Zm Y <| Yb (n := 1) Y Y ?_
   (refine op_v (p_indexAddr_nat underlying49 sizeOf55 Y Y ?_) ?_; (focus (first | omega | decide | (simp; done))))
   refine op_rm (cs := [(g, .cells cur2 T2 zz2)]) (by simp [hm2]) (p_load_agg (cs := #[.int .i64 y.t, .int .i64 y.k, .bool y.had, .int .i64 y.o.a, .int .i64 y.o.b, .int .i64 y.o.c, .bool y.has, .int .i64 y.n.a, .int .i64 y.n.b, .int .i64 y.n.c]) isAgg55 sizeOf55 Y (by omega) hex2) rfl rfl ?_
   refine Ze (w_alloc zeroValue55 (cs := #[_, _, _, _, _, _, _, _, _, _]) rfl) ?_
   rintro _ _ ⟨b3, rfl, rfl⟩
   refine Xe (w_store_agg sizeOf55 Y Y (by (simp [Value.oneCell']; done)) Wu (by rfl) (by first | rfl | (simp; done)) Wb (by exact free_zero _)) ?_
   refine Z0 <| Zx <| Zq <| Zg <| Zh 0 underlying55 rfl rfl sizeOf3 Y <| Zl isAgg3 Y ?_
   refine Zh 0 underlying55 rfl rfl sizeOf3 Y <| Zl isAgg3 Y ?_
   refine Zv (p_gtr Y Y) <| Zm Y ?_
   refine ops_split (t := 45) Y rfl (fun ho1 => ?_) (fun ho1 => ?_)
   ·
    refine op_skip Y rfl <| op_skip Y rfl <| op_skip Y rfl <| op_skip Y rfl <| op_skip Y rfl <| op_skip Y rfl <| op_skip Y rfl <| op_skip Y rfl <| op_skip Y rfl <| op_skip Y rfl <| op_skip Y rfl <| op_skip Y rfl <| Zv (p_pick_t Y Y) <| Z0 <| Zn [1, 3, 58] ?_
    refine Zx <| at_then Y <| Zq <| Zg <| Za Y <| Z0 <| Zx <| at_ret <| nx_block_ret <| Zt <| Zt <| nx_block_ret <| Zt ?_
    refine nx_end1 rfl results46 Y (by exact ⟨by rw [decide_eq_false (fun h9 : RecOk p cs => by have h91 := h9.ord (i - 1) y x hy (by rw [show i - 1 + 1 = i by omega]; exact hx); unfold Chg.lt at h91; omega)], rfl⟩)
   refine Yf 0 underlying55 rfl rfl sizeOf3 Y <| Yl isAgg3 Y ?_
   refine Yf 0 underlying55 rfl rfl sizeOf3 Y <| Yl isAgg3 Y ?_
   refine Yg (p_eql Y Y) <| Zf Y Y ?_
   refine ops_split (t := 51) Y rfl (fun ho2 => ?_) (fun ho2 => ?_)
   ·
    refine Yf 1 underlying55 rfl rfl sizeOf3 Y <| Yl isAgg3 Y ?_
    refine Yf 1 underlying55 rfl rfl sizeOf3 Y <| Yl isAgg3 Y ?_
    refine Yg (p_geq Y Y) <| Yg (p_pick_t Y Y) <| Zv (p_pick_f Y Y) <| Z0 <| Zn [1, 3, 58] ?_
    refine Zx ?_
    refine at_if Y (fun ho3 => ?_) (fun ho3 => ?_)
    ·
     refine Zq <| Zg <| Za Y <| Z0 <| Zx <| at_ret <| nx_block_ret <| Zt <| Zt <| nx_block_ret <| Zt ?_
     refine nx_end1 rfl results46 Y (by exact ⟨by rw [decide_eq_false (fun h9 : RecOk p cs => by have h91 := h9.ord (i - 1) y x hy (by rw [show i - 1 + 1 = i by omega]; exact hx); unfold Chg.lt at h91; omega)], rfl⟩)
    refine at_skip <| nx_block_normal <| Zx <| Zg <| Zm Y <| Ya (n := 1) Y Y <| Za Y <| Z0 <| Zn [3, 1] ?_
    refine nx_againB (e' := [(3, _)]) (m := _) (H' := _) (by exact ⟨i + 1, rfl, ⟨by omega, all_more hall hx (Classical.not_not.1 hbad), ord_more hord hx (by (right; refine ⟨y, hy, ?_⟩; unfold Chg.lt; omega))⟩, rfl, rfl⟩)
   refine op_skip Y rfl <| op_skip Y rfl <| op_skip Y rfl <| op_skip Y rfl <| op_skip Y rfl <| Yg (p_pick_f Y Y) <| Zv (p_pick_f Y Y) <| Z0 <| Zn [1, 3, 58] ?_
   refine Zx <| at_else Y <| at_skip <| nx_block_normal <| Zx <| Zg <| Zm Y <| Ya (n := 1) Y Y <| Za Y <| Z0 <| Zn [3, 1] ?_
   refine nx_againB (e' := [(3, _)]) (m := _) (H' := _) (by exact ⟨i + 1, rfl, ⟨by omega, all_more hall hx (Classical.not_not.1 hbad), ord_more hord hx (by (right; refine ⟨y, hy, ?_⟩; unfold Chg.lt; omega))⟩, rfl, rfl⟩)
  refine at_skip <| nx_block_normal <| Zx <| Zg <| Zm Y <| Ya (n := 1) Y Y <| Za Y <| Z0 <| Zn [3, 1] ?_
  refine nx_againB (e' := [(3, _)]) (m := _) (H' := _) (by exact ⟨i + 1, rfl, ⟨by omega, all_more hall hx (Classical.not_not.1 hbad), ord_more hord hx (by (left; omega))⟩, rfl, rfl⟩)
 refine at_exit <| Zt <| Zt <| nx_block_exit <| Zx <| Zq <| Zg <| Za Y <| Z0 <| Zx <| at_ret ?_
 refine nx_end1 rfl results46 Y (by exact ⟨by rw [decide_eq_true (⟨by omega, by omega, fun j c hc => hall j c (by have := (List.getElem?_eq_some_iff.1 hc).1; omega) hc, fun j b c hb hc => hord j b c (by have := (List.getElem?_eq_some_iff.1 hc).1; omega) hb hc⟩ : RecOk p cs)], rfl⟩)

end Go.Proofs.YtkgmgmkbgnkdnaaGreatDoor

namespace Go.Proofs.YtkgmgmkbgnkdnaaGreatDoor
open Go.Proofs.Tryz
open Go Go.RowKit Gw
set_option linter.unusedVariables false
set_option linter.unusedSimpArgs false
set_option maxRecDepth 100000
attribute [local irreducible] Gw.At Gw.Nx Gw.Ops
def RowsIn (M : List Chunk) (v : Value) (rs : List RowM) : Prop := ∃ p cap, v = .slice p rs.length cap ∧ rs.length ≤ maxLen ∧ ∀ (i : Nat) (r : RowM), rs[i]? = some r → ∃ g off cur T zz, p = some ⟨g, off, none⟩ ∧ (g, Obj.cells cur T zz) ∈ M ∧ off + i * 5 + 5 ≤ cur.size ∧ cur.extract (off + i * 5) (off + i * 5 + 5) = #[.int .i64 r.t, .int .i64 r.k, .int .i64 r.v.a, .int .i64 r.v.b, .int .i64 r.v.c]
theorem ext_at {cur cs : Array Value} {a n j : Nat} {v : Value} (h : cur.extract a (a + n) = cs) (hv : cs[j]? = some v) : cur[a + j]? = some v := by
  rw [← h, Array.getElem?_extract] at hv
  split at hv
  · exact hv
  · cases hv
def RowM.lt2 (r : RowM) (t k : Int) : Prop := r.t < t ∨ r.t = t ∧ r.k < k
instance (r : RowM) (t k : Int) : Decidable (r.lt2 t k) := inferInstanceAs (Decidable (_ ∨ _))
def RowM.is (r : RowM) (t k : Int) : Prop := r.t = t ∧ r.k = k
instance (r : RowM) (t k : Int) : Decidable (r.is t k) := inferInstanceAs (Decidable (_ ∧ _))
def SortedR (rs : List RowM) : Prop := rs.Pairwise (fun a b => a.lt2 b.t b.k)
def placeL (rs : List RowM) (t k : Int) : Nat := (rs.takeWhile (fun r => decide (r.lt2 t k))).length
theorem placeL_of : ∀ {rs : List RowM} {t k : Int} {m : Nat}, m ≤ rs.length → (∀ (i : Nat) (r : RowM), i < m → rs[i]? = some r → r.lt2 t k) → (∀ (i : Nat) (r : RowM), m ≤ i → rs[i]? = some r → ¬ r.lt2 t k) → placeL rs t k = m
  | [], t, k, m, hm, _, _ => by simp only [List.length_nil] at hm; simp [placeL]; omega
  | r :: rs, t, k, 0, _, _, h2 => by unfold placeL; rw [List.takeWhile_cons, if_neg (by simpa using h2 0 r (by omega) rfl)]; rfl
  | r :: rs, t, k, m + 1, hm, h1, h2 => by
    unfold placeL
    rw [List.takeWhile_cons, if_pos (by simpa using h1 0 r (by omega) rfl), List.length_cons]
    exact congrArg (· + 1) (placeL_of (by simpa using hm) (fun i x hi hx => h1 (i + 1) x (by omega) hx) (fun i x hi hx => h2 (i + 1) x (by omega) hx))
theorem lt2_trans {a b : RowM} {t k : Int} (h : a.lt2 b.t b.k) (hb : b.lt2 t k) : a.lt2 t k := by unfold RowM.lt2 at *; omega
theorem sorted_at {rs : List RowM} (h : SortedR rs) {i j : Nat} {a b : RowM} (hij : i < j) (ha : rs[i]? = some a) (hb : rs[j]? = some b) : a.lt2 b.t b.k := by
  obtain ⟨hi, rfl⟩ := List.getElem?_eq_some_iff.1 ha
  obtain ⟨hj, rfl⟩ := List.getElem?_eq_some_iff.1 hb
  exact List.pairwise_iff_getElem.1 h i j hi hj hij
theorem below_all {rs : List RowM} (h : SortedR rs) {m : Nat} {x : RowM} {t k : Int} (hx : rs[m]? = some x) (hl : x.lt2 t k) : ∀ (i : Nat) (r : RowM), i < m + 1 → rs[i]? = some r → r.lt2 t k := by
  intro i r hi hr
  rcases Nat.lt_or_ge i m with h9 | h9
  · exact lt2_trans (sorted_at h h9 hr hx) hl
  · rw [show i = m by omega, hx] at hr; injection hr with hr; rw [← hr]; exact hl
theorem above_all {rs : List RowM} (h : SortedR rs) {m : Nat} {x : RowM} {t k : Int} (hx : rs[m]? = some x) (hl : ¬ x.lt2 t k) : ∀ (i : Nat) (r : RowM), m ≤ i → rs[i]? = some r → ¬ r.lt2 t k := by
  intro i r hi hr hc
  rcases Nat.lt_or_ge m i with h9 | h9
  · exact hl (lt2_trans (sorted_at h h9 hx hr) hc)
  · rw [show i = m by omega, hx] at hr; injection hr with hr; rw [← hr] at hc; exact hl hc

theorem r4_place (sp : Nat) (q : Option Addr) (cap : Nat) (p t k : Int) (rs : List RowM) (M : List Chunk) (hO : RowsIn M (.slice q rs.length cap) rs) (hn : rs.length ≤ 1000000) (hs : SortedR rs) : DoesR Tryz.prog 45 #[.pointer (some ⟨sp, 0, none⟩), .int .i64 t, .int .i64 k] [[(sp, .cells #[.slice q rs.length cap, .int .i64 p] 71 (0, 0))], M] (.int .i64 (placeL rs t k : Int)) := by
 have hml : maxLen = 9223372036854775807 := rfl
 obtain ⟨p9, cap9, e9, hol, hg⟩ := hO
 injection e9 with e91 e92 e93
 subst e91 e93
 refine spec_enter func45 rfl ntmps45 rfl ?_
 intro u R
 refine Zb [0, 1, 2] ?_
 refine Zq <| Zg <| Za Y <| Z0 <| Zx <| Zq <| Zg <| Za Y <| Z0 <| Zx <| Zq <| Zg <| Zm Y <| Zp Y rfl <| Zh 0 underlying71 rfl rfl sizeOf38 Y <| Zl isAgg38 Y ?_
 refine Zv (p_len_slice underlying38 Y) <| Za Y <| Z0 <| Zx <| Zq <| at_block <| Zb [7, 8, 0, 1, 2] ?_
 refine at_loopB (e0 := [(7, _), (8, _)]) (H0 := _) (n := _) (fun m e H => ∃ (lo hi : Nat), m = hi - lo ∧ (lo ≤ hi ∧ hi ≤ rs.length ∧ (∀ (i : Nat) (r : RowM), i < lo → rs[i]? = some r → r.lt2 t k) ∧ (∀ (i : Nat) (r : RowM), hi ≤ i → rs[i]? = some r → ¬ r.lt2 t k)) ∧ e = [(7, .int .i64 (lo : Int)), (8, .int .i64 (hi : Int))] ∧ H = []) (by exact ⟨0, rs.length, rfl, ⟨by omega, by omega, by intro i r hi; omega, by intro i r hi hr; have := (List.getElem?_eq_some_iff.1 hr).1; omega⟩, rfl, rfl⟩) Wp ?_
 rintro _ _ _ ⟨lo, hi, rfl, ⟨hlh, hhl, hbl, hab⟩, rfl, rfl⟩
 refine Zq <| Zq <| Zg <| Zm Y <| Zm Y <| Zv (p_lss_nat Y Y) <| Z0 <| Zx ?_
 refine at_if Y (fun hlt => ?_) (fun hlt => ?_)
 ·
  refine at_skip <| Zx <| at_block <| Zq <| Zg <| Zm Y <| Zm Y <| Ya Y Y ?_
  (refine op_v (p_quo_nat (n := 2) Y Y ?_ ?_) ?_; (focus (omega)); (focus (omega)))
  refine Za Y <| Z0 <| Zx <| Zq ?_
  obtain ⟨x, hx⟩ : ∃ x, rs[(lo + hi) / 2]? = some x := ⟨_, List.getElem?_eq_getElem (by omega)⟩
  obtain ⟨g, off, cur, T, zz, rfl, hm, hsz, hex⟩ := hg _ x hx
  refine Zg <| Zm Y <| Zp Y rfl <| Zh 0 underlying71 rfl rfl sizeOf38 Y <| Zl isAgg38 Y ?_
  refine Zm Y ?_
  (refine op_v (p_indexAddr_nat underlying38 sizeOf67 Y Y ?_) ?_; (focus (omega)))
  refine Zv (p_fieldAddr1 (off := 0) underlying67 rfl rfl sizeOf3 Y) <| op_rm (cs := [(g, .cells cur T zz)]) (by simp [hm]) (p_load isAgg3 Y (ext_at (j := 0) hex rfl)) rfl rfl ?_
  refine Zm Y <| Zv (p_lss Y Y) <| Zm Y ?_
  refine ops_split (t := 32) Y rfl (fun h1 => ?_) (fun h1 => ?_)
  ·
   refine op_skip Y rfl <| op_skip Y rfl <| op_skip Y rfl <| op_skip Y rfl <| op_skip Y rfl <| op_skip Y rfl <| op_skip Y rfl <| op_skip Y rfl <| op_skip Y rfl <| op_skip Y rfl <| op_skip Y rfl <| op_skip Y rfl <| op_skip Y rfl <| op_skip Y rfl <| op_skip Y rfl <| op_skip Y rfl <| op_skip Y rfl <| op_skip Y rfl <| op_skip Y rfl <| op_skip Y rfl <| op_skip Y rfl <| op_skip Y rfl <| Zv (p_pick_t Y Y) <| Z0 ?_
   refine Zn [0, 1, 2, 7, 8, 9, 55] ?_
   refine Zx <| at_then Y <| Zg <| Zm Y <| Ya (n := 1) Y Y <| Za Y <| Z0 <| nx_block_normal <| Zn [7, 8, 0, 1, 2] ?_
   refine nx_againB (e' := [(7, _), (8, _)]) (m := _) (H' := _) (by exact ⟨(lo + hi) / 2 + 1, hi, rfl, ⟨by omega, by omega, below_all hs hx (by unfold RowM.lt2; omega), hab⟩, rfl, rfl⟩)
  refine Zf Y Y <| Yg (p_nilChk Y rfl) <| Yf 0 underlying71 rfl rfl sizeOf38 Y <| Yl isAgg38 Y ?_
  refine Zf Y Y ?_
  (refine op_wg Y (p_indexAddr_nat underlying38 sizeOf67 Y Y ?_) rfl rfl ?_; (focus (omega)))
  refine Yg (p_fieldAddr1 (off := 0) underlying67 rfl rfl sizeOf3 Y) <| op_rmg Y (cs := [(g, .cells cur T zz)]) (by simp [hm]) (p_load isAgg3 Y (ext_at (j := 0) hex rfl)) rfl rfl ?_
  refine Zf Y Y <| Yg (p_eql Y Y) <| Zf Y Y ?_
  refine ops_split (t := 43) Y rfl (fun h2 => ?_) (fun h2 => ?_)
  ·
   refine Zf Y Y <| Yg (p_nilChk Y rfl) <| Yf 0 underlying71 rfl rfl sizeOf38 Y <| Yl isAgg38 Y ?_
   refine Zf Y Y ?_
   (refine op_wg Y (p_indexAddr_nat underlying38 sizeOf67 Y Y ?_) rfl rfl ?_; (focus (omega)))
   refine Yg (p_fieldAddr1 (off := 1) underlying67 rfl rfl sizeOf3 Y) <| op_rmg Y (cs := [(g, .cells cur T zz)]) (by simp [hm]) (p_load isAgg3 Y (ext_at (j := 1) hex rfl)) rfl rfl ?_
   refine Zf Y Y <| Yg (p_lss Y Y) <| Yg (p_pick_t Y Y) <| Zv (p_pick_f Y Y) <| Z0 <| Zn [0, 1, 2, 7, 8, 9, 55] ?_
   refine Zx ?_
   refine at_if Y (fun h3 => ?_) (fun h3 => ?_)
   ·
    refine Zg <| Zm Y <| Ya (n := 1) Y Y <| Za Y <| Z0 <| nx_block_normal <| Zn [7, 8, 0, 1, 2] ?_
    refine nx_againB (e' := [(7, _), (8, _)]) (m := _) (H' := _) (by exact ⟨(lo + hi) / 2 + 1, hi, rfl, ⟨by omega, by omega, below_all hs hx (by unfold RowM.lt2; omega), hab⟩, rfl, rfl⟩)
   refine Zg <| Zm Y <| Za Y <| Z0 <| nx_block_normal <| Zn [7, 8, 0, 1, 2] ?_
   refine nx_againB (e' := [(7, _), (8, _)]) (m := _) (H' := _) (by exact ⟨lo, (lo + hi) / 2, rfl, ⟨by omega, by omega, hbl, above_all hs hx (by unfold RowM.lt2; omega)⟩, rfl, rfl⟩)
  refine op_skip Y rfl <| op_skip Y rfl <| op_skip Y rfl <| op_skip Y rfl <| op_skip Y rfl <| op_skip Y rfl <| op_skip Y rfl <| op_skip Y rfl <| op_skip Y rfl <| op_skip Y rfl <| Yg (p_pick_f Y Y) <| Zv (p_pick_f Y Y) <| Z0 <| Zn [0, 1, 2, 7, 8, 9, 55] ?_
  refine Zx <| at_else Y <| Zg <| Zm Y <| Za Y <| Z0 <| nx_block_normal <| Zn [7, 8, 0, 1, 2] ?_
  refine nx_againB (e' := [(7, _), (8, _)]) (m := _) (H' := _) (by exact ⟨lo, (lo + hi) / 2, rfl, ⟨by omega, by omega, hbl, above_all hs hx (by unfold RowM.lt2; omega)⟩, rfl, rfl⟩)
 refine at_exit <| Zt <| Zt <| nx_block_exit <| Zx <| Zq <| Zg <| Zm Y <| Za Y <| Z0 <| Zx <| at_ret ?_
 refine nx_end1 rfl results45 Y (by exact ⟨by rw [placeL_of (by omega) hbl (fun i r hi hr => hab i r (by omega) hr)], rfl⟩)

def getL (rs : List RowM) (t k : Int) : RowM × Bool := match rs[placeL rs t k]? with
  | some r => if r.is t k then (r, true) else (RowM.zero, false)
  | none => (RowM.zero, false)
theorem placeL_le (rs : List RowM) (t k : Int) : placeL rs t k ≤ rs.length := by unfold placeL; exact List.IsPrefix.length_le (List.takeWhile_prefix _)
theorem getL_some {rs : List RowM} {t k : Int} {x : RowM} (hx : rs[placeL rs t k]? = some x) (h1 : x.t = t) (h2 : x.k = k) : getL rs t k = (x, true) := by unfold getL; rw [hx]; exact if_pos ⟨h1, h2⟩
theorem getL_no {rs : List RowM} {t k : Int} {x : RowM} (hx : rs[placeL rs t k]? = some x) (h : ¬ (x.t = t ∧ x.k = k)) : getL rs t k = (RowM.zero, false) := by unfold getL; rw [hx]; exact if_neg h
theorem getL_end {rs : List RowM} {t k : Int} (h : ¬ placeL rs t k < rs.length) : getL rs t k = (RowM.zero, false) := by unfold getL; rw [List.getElem?_eq_none (by omega)]

theorem r4_get (sp : Nat) (q : Option Addr) (cap : Nat) (p t k : Int) (rs : List RowM) (M : List Chunk) (hO : RowsIn M (.slice q rs.length cap) rs) (hn : rs.length ≤ 1000000) (hs : SortedR rs) : DoesR Tryz.prog 20 #[.pointer (some ⟨sp, 0, none⟩), .int .i64 t, .int .i64 k] [[(sp, .cells #[.slice q rs.length cap, .int .i64 p] 71 (0, 0))], M] (.tuple #[.agg #[.int .i64 (getL rs t k).1.t, .int .i64 (getL rs t k).1.k, .int .i64 (getL rs t k).1.v.a, .int .i64 (getL rs t k).1.v.b, .int .i64 (getL rs t k).1.v.c], .bool (getL rs t k).2]) := by
 have hO1 := id hO
 have hml : maxLen = 9223372036854775807 := rfl
 obtain ⟨p9, cap9, e9, hol, hg⟩ := hO
 injection e9 with e91 e92 e93
 subst e91 e93
 have hpl := placeL_le rs t k
 refine spec_enter func20 rfl ntmps20 rfl ?_
 intro u R
 refine Zb [0, 1, 2] ?_
 refine Zq <| Zg <| Ze (w_alloc zeroValue67 (cs := #[_, _, _, _, _]) rfl) ?_
 rintro _ _ ⟨b1, rfl, rfl⟩
 refine Za Y <| Z0 <| Zx <| Zq <| Zg <| Zm Y <| Zm Y <| Zm Y <| Xr [_, _, _] Y call45 Y rfl (r4_place sp _ _ p t k rs M hO1 hn hs) ?_
 refine Za Y <| Z0 <| Zx <| Zq <| Zq <| Zg <| Zm Y <| Zm Y <| Zp Y rfl <| Zh 0 underlying71 rfl rfl sizeOf38 Y <| Zl isAgg38 Y ?_
 refine Zv (p_len_slice underlying38 Y) <| Zv (p_lss_nat Y Y) <| Zm Y ?_
 refine ops_split (t := 20) Y rfl (fun hlt => ?_) (fun hlt => ?_)
 ·
  obtain ⟨x, hx⟩ : ∃ x, rs[placeL rs t k]? = some x := ⟨_, List.getElem?_eq_getElem hlt⟩
  obtain ⟨g, off, cur, T, zz, rfl, hm, hsz, hex⟩ := hg _ x hx
  refine Zf Y Y <| Yg (p_nilChk Y rfl) <| Yf 0 underlying71 rfl rfl sizeOf38 Y <| Yl isAgg38 Y ?_
  refine Zf Y Y ?_
  (refine op_wg Y (p_indexAddr_nat underlying38 sizeOf67 Y Y ?_) rfl rfl ?_; (focus (omega)))
  refine Yg (p_fieldAddr1 (off := 0) underlying67 rfl rfl sizeOf3 Y) <| op_rmg Y (cs := [(g, .cells cur T zz)]) (by simp [hm]) (p_load isAgg3 Y (ext_at (j := 0) hex rfl)) rfl rfl ?_
  refine Zf Y Y <| Yg (p_eql Y Y) <| Zv (p_pick_t Y Y) <| Zm Y ?_
  refine ops_split (t := 32) Y rfl (fun ht => ?_) (fun ht => ?_)
  ·
   refine Zf Y Y <| Yg (p_nilChk Y rfl) <| Yf 0 underlying71 rfl rfl sizeOf38 Y <| Yl isAgg38 Y ?_
   refine Zf Y Y ?_
   (refine op_wg Y (p_indexAddr_nat underlying38 sizeOf67 Y Y ?_) rfl rfl ?_; (focus (omega)))
   refine Yg (p_fieldAddr1 (off := 1) underlying67 rfl rfl sizeOf3 Y) <| op_rmg Y (cs := [(g, .cells cur T zz)]) (by simp [hm]) (p_load isAgg3 Y (ext_at (j := 1) hex rfl)) rfl rfl ?_
   refine Zf Y Y <| Yg (p_eql Y Y) <| Zv (p_pick_t Y Y) <| Z0 <| Zn [0, 6, 8, 43] ?_
   refine Zx ?_
   refine at_if Y (fun hk => ?_) (fun hk => ?_)
   ·
    refine Zq <| Zg <| Zm Y <| Zp Y rfl <| Zh 0 underlying71 rfl rfl sizeOf38 Y <| Zl isAgg38 Y ?_
    refine Zm Y ?_
    (refine op_v (p_indexAddr_nat underlying38 sizeOf67 Y Y ?_) ?_; (focus (first | omega | decide | (simp; done))))
    refine op_rm (cs := [(g, .cells cur T zz)]) (by simp [hm]) (p_load_agg (cs := #[.int .i64 x.t, .int .i64 x.k, .int .i64 x.v.a, .int .i64 x.v.b, .int .i64 x.v.c]) isAgg67 sizeOf67 Y (by omega) hex) rfl rfl ?_
    refine Xe (w_store_agg sizeOf67 Y Y (by (simp [Value.oneCell']; done)) Wu (by rfl) (by first | rfl | (simp; done)) Wb (by exact free_zero _)) ?_
    refine Za Y <| Z0 <| Zx <| at_ret <| Zt ?_
    refine nx_endct rfl results20 Y Wh (loadVar_agg isAgg67 sizeOf67 Wn (rfl)) Y (by exact ⟨by rw [getL_some hx ht hk]; rfl, rfl⟩)
   refine at_skip <| Zx <| Zq <| Zg <| Zv (p_build (vs := []) (cs := #[_, _, _, _, _]) Y (run_build_struct (pl := #[(0, 1), (1, 1), (2, 3)]) zeroValue67 underlying67 (fun _ => by kernel_rfl) rfl)) ?_
   refine Xe (w_store_agg sizeOf67 Y Y (by (simp [Value.oneCell']; done)) Wu (by rfl) (by first | rfl | (simp; done)) Wn (by exact free_zero _)) ?_
   refine Za Y <| Z0 <| Zx <| at_ret ?_
   refine nx_endct rfl results20 Y Wh (loadVar_agg isAgg67 sizeOf67 Wn (rfl)) Y (by exact ⟨by (rw [getL_no hx (by omega)]; rfl), rfl⟩)
  refine op_skip Y rfl <| op_skip Y rfl <| op_skip Y rfl <| op_skip Y rfl <| op_skip Y rfl <| op_skip Y rfl <| op_skip Y rfl <| op_skip Y rfl <| op_skip Y rfl <| op_skip Y rfl <| Zv (p_pick_f Y Y) <| Z0 <| Zn [0, 6, 8, 43] ?_
  refine Zx <| at_else Y <| at_skip <| Zx <| Zq <| Zg <| Zv (p_build (vs := []) (cs := #[_, _, _, _, _]) Y (run_build_struct (pl := #[(0, 1), (1, 1), (2, 3)]) zeroValue67 underlying67 (fun _ => by kernel_rfl) rfl)) ?_
  refine Xe (w_store_agg sizeOf67 Y Y (by (simp [Value.oneCell']; done)) Wu (by rfl) (by first | rfl | (simp; done)) Wn (by exact free_zero _)) ?_
  refine Za Y <| Z0 <| Zx <| at_ret ?_
  refine nx_endct rfl results20 Y Wh (loadVar_agg isAgg67 sizeOf67 Wn (rfl)) Y (by exact ⟨by (rw [getL_no hx (by omega)]; rfl), rfl⟩)
 refine op_skip Y rfl <| op_skip Y rfl <| op_skip Y rfl <| op_skip Y rfl <| op_skip Y rfl <| op_skip Y rfl <| op_skip Y rfl <| op_skip Y rfl <| op_skip Y rfl <| op_skip Y rfl <| Zv (p_pick_f Y Y) <| Zm Y <| op_skip Y rfl <| op_skip Y rfl <| op_skip Y rfl <| op_skip Y rfl <| op_skip Y rfl <| op_skip Y rfl <| op_skip Y rfl <| op_skip Y rfl <| op_skip Y rfl <| op_skip Y rfl <| Zv (p_pick_f Y Y) <| Z0 ?_
 refine Zn [0, 6, 8, 43] ?_
 refine Zx <| at_else Y <| at_skip <| Zx <| Zq <| Zg <| Zv (p_build (vs := []) (cs := #[_, _, _, _, _]) Y (run_build_struct (pl := #[(0, 1), (1, 1), (2, 3)]) zeroValue67 underlying67 (fun _ => by kernel_rfl) rfl)) ?_
 refine Xe (w_store_agg sizeOf67 Y Y (by (simp [Value.oneCell']; done)) Wu (by rfl) (by first | rfl | (simp; done)) Wn (by exact free_zero _)) ?_
 refine Za Y <| Z0 <| Zx <| at_ret ?_
 refine nx_endct rfl results20 Y Wh (loadVar_agg isAgg67 sizeOf67 Wn (rfl)) Y (by exact ⟨by (rw [getL_end hlt]; rfl), rfl⟩)

end Go.Proofs.YtkgmgmkbgnkdnaaGreatDoor
