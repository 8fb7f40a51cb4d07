/- Records in plain words; ValidRecord of the reference. -/
import Derived.Test.YtkgmgmkbgnkdnaaGreatEz
import Derived.Test.YtkgmgmkbgnkdnaaGreatLg1
namespace Go.Proofs.YtkgmgmkbgnkdnaaGreat
open Go.Proofs.Tryz
open Go Go.RowKit Gw
set_option linter.unusedVariables false
set_option linter.unusedSimpArgs false
set_option maxRecDepth 100000
attribute [local irreducible] Gw.At Gw.Nx Gw.Ops
def ChgsIn (M : List Chunk) (v : Value) (cs : List Chg) : Prop := ∃ p cap, v = .slice p cs.length cap ∧ cs.length ≤ maxLen ∧ ∀ (i : Nat) (c : Chg), cs[i]? = some c → ∃ g off cur T zz, p = some ⟨g, off, none⟩ ∧ (g, Obj.cells cur T zz) ∈ M ∧ off + i * 10 + 10 ≤ cur.size ∧ cur.extract (off + i * 10) (off + i * 10 + 10) = #[.int .i64 c.t, .int .i64 c.k, .bool c.had, .int .i64 c.o.a, .int .i64 c.o.b, .int .i64 c.o.c, .bool c.has, .int .i64 c.n.a, .int .i64 c.n.b, .int .i64 c.n.c]
def Chg.lt (b c : Chg) : Prop := b.t < c.t ∨ b.t = c.t ∧ b.k < c.k
instance (b c : Chg) : Decidable (b.lt c) := inferInstanceAs (Decidable (_ ∨ _))
structure RecOk (p : Int) (cs : List Chg) : Prop where
  pos : 1 ≤ p ∧ p ≤ 10000
  len : 1 ≤ cs.length ∧ cs.length ≤ 8
  all : ∀ (i : Nat) (c : Chg), cs[i]? = some c → c.ok
  ord : ∀ (i : Nat) (b c : Chg), cs[i]? = some b → cs[i + 1]? = some c → b.lt c
noncomputable instance (p : Int) (cs : List Chg) : Decidable (RecOk p cs) := Classical.propDecidable _
theorem all_more {cs : List Chg} {i : Nat} {x : Chg} (h : ∀ (j : Nat) (c : Chg), j < i → cs[j]? = some c → c.ok) (hx : cs[i]? = some x) (ho : x.ok) : ∀ (j : Nat) (c : Chg), j < i + 1 → cs[j]? = some c → c.ok := by
  intro j c hj hc
  rcases Nat.lt_or_ge j i with h9 | h9
  · exact h j c h9 hc
  · have e : j = i := by omega
    rw [e, hx] at hc; injection hc with hc; rw [← hc]; exact ho
theorem ord_more {cs : List Chg} {i : Nat} {x : Chg} (h : ∀ (j : Nat) (b c : Chg), j + 1 < i → cs[j]? = some b → cs[j + 1]? = some c → b.lt c) (hx : cs[i]? = some x) (ho : i = 0 ∨ ∃ y, cs[i - 1]? = some y ∧ y.lt x) : ∀ (j : Nat) (b c : Chg), j + 1 < i + 1 → cs[j]? = some b → cs[j + 1]? = some c → b.lt c := by
  intro j b c hj hb hc
  rcases Nat.lt_or_ge (j + 1) i with h9 | h9
  · exact h j b c h9 hb hc
  · have e : j + 1 = i := by omega
    rw [e, hx] at hc; injection hc with hc
    rcases ho with h0 | ⟨y, hy, hl⟩
    · omega
    · rw [show i - 1 = j by omega, hb] at hy; injection hy with hy; rw [hy, ← hc]; exact hl

theorem r3_validr (p : Int) (q : Option Addr) (cap : Nat) (cs : List Chg) (M : List Chunk) (hO : ChgsIn M (.slice q cs.length cap) cs) : DoesR Tryz.prog 37 #[.agg #[.int .i64 p, .slice q cs.length cap]] [M] (.bool (decide (RecOk p cs))) := by
 have hml : maxLen = 9223372036854775807 := rfl
 obtain ⟨p9, cap9, e9, hol, hg⟩ := hO
 injection e9 with e91 e92 e93
 subst e91 e93
 refine spec_enter func37 rfl ntmps37 rfl ?_
 intro u R
 refine Zb [0] ?_
 refine Zq <| Zg <| Ze (w_box Y (cs := #[_, _]) rfl) ?_
 rintro _ _ ⟨b1, rfl, rfl⟩
 refine Za Y <| Z0 <| Zx <| Zq <| Zq <| Zg <| Zh 0 underlying36 rfl rfl sizeOf3 Y <| Zl isAgg3 Y ?_
 refine Zr [_, _, _] Y call74 Y rfl (r3_within _ _ _) ?_
 rintro _ _ ⟨rfl, rfl⟩
 refine Zv (p_not_dec Y) <| Zm Y ?_
 refine ops_split (t := 10) Y rfl (fun hp => ?_) (fun hp => ?_)
 ·
  refine op_skip Y rfl <| op_skip Y rfl <| op_skip Y rfl <| op_skip Y rfl <| op_skip Y rfl <| Zv (p_pick_t Y Y) <| Z0 <| Zn [1, 16] ?_
  refine Zx <| at_then Y <| Zq <| Zg <| Za Y <| Z0 <| Zx <| at_ret <| Zt ?_
  refine nx_end1 rfl results37 Y (by exact ⟨by rw [decide_eq_false (fun h9 : RecOk p cs => by have h91 := h9.pos; have h92 := h9.len; first | exact hp h91 | (apply hl; omega))], rfl⟩)
 ·
  refine Yf 1 underlying36 rfl rfl sizeOf34 Y <| Yl isAgg34 Y ?_
  refine Yg (p_len_slice underlying34 Y) <| Zr [_, _, _] Y call74 Y rfl (r3_within _ _ _) ?_
  rintro _ _ ⟨rfl, rfl⟩
  refine Yg (p_not_dec Y) <| Zv (p_pick_f Y Y) <| Z0 <| Zn [1, 16] ?_
  refine Zx ?_
  refine at_if Y (fun hl => ?_) (fun hl => ?_)
  ·
   refine Zq <| Zg <| Za Y <| Z0 <| Zx <| at_ret <| Zt ?_
   refine nx_end1 rfl results37 Y (by exact ⟨by rw [decide_eq_false (fun h9 : RecOk p cs => by have h91 := h9.pos; have h92 := h9.len; first | exact hp h91 | (apply hl; omega))], rfl⟩)
  ·
   refine at_skip <| Zx <| Zq <| Zq <| Zg <| Za Y <| Z0 <| Zx <| at_block <| Zb [3, 1] ?_
   refine at_loopB (e0 := [(3, _)]) (H0 := _) (n := _) (fun m e H => ∃ (i : Nat), m = cs.length - i ∧ (i ≤ cs.length ∧ (∀ (j : Nat) (c : Chg), j < i → cs[j]? = some c → c.ok) ∧ (∀ (j : Nat) (b c : Chg), j + 1 < i → cs[j]? = some b → cs[j + 1]? = some c → b.lt c)) ∧ e = [(3, .int .i64 (i : Int))] ∧ H = []) (by exact ⟨0, rfl, ⟨by omega, by intro j c hj; omega, by intro j b c hj; omega⟩, rfl, rfl⟩) (by repeat (first | exact Pull.nil _ | (apply Pull.cons; (focus (repeat (first | exact One.here _ _ | apply One.there)))))) ?_
   rintro _ _ _ ⟨i, rfl, ⟨hi, hall, hord⟩, rfl, rfl⟩
   refine Zq <| Zq <| Zg <| Zm Y <| Zh 1 underlying36 rfl rfl sizeOf34 Y <| Zl isAgg34 Y ?_
   refine Zv (p_len_slice underlying34 Y) <| Zv (p_lss_nat Y Y) <| Z0 <| Zx ?_
   refine at_if Y (fun hlt => ?_) (fun hlt => ?_)
   ·
    refine at_skip <| Zx <| Zq <| at_block <| Zq ?_
    obtain ⟨x, hx⟩ : ∃ x, cs[i]? = some x := ⟨_, List.getElem?_eq_getElem hlt⟩
    obtain ⟨g, off, cur, T, zz, rfl, hm, hsz, hex⟩ := hg i x hx
    refine Zg <| Zh 1 underlying36 rfl rfl sizeOf34 Y <| Zl isAgg34 Y ?_
    refine Zm Y ?_
    (refine op_v (p_indexAddr_nat underlying34 sizeOf40 Y Y ?_) ?_; (focus (first | omega | decide | (simp; done))))
    refine op_rm (cs := [(g, .cells cur T zz)]) (by simp [hm]) (p_load_agg (cs := #[.int .i64 x.t, .int .i64 x.k, .bool x.had, .int .i64 x.o.a, .int .i64 x.o.b, .int .i64 x.o.c, .bool x.has, .int .i64 x.n.a, .int .i64 x.n.b, .int .i64 x.n.c]) isAgg40 sizeOf40 Y (by omega) hex) rfl rfl ?_
    refine Ze (w_alloc zeroValue40 (cs := #[_, _, _, _, _, _, _, _, _, _]) rfl) ?_
    rintro _ _ ⟨b2, rfl, rfl⟩
    refine Ze (w_store_agg sizeOf40 Y Y (by (simp [Value.oneCell']; done)) (by repeat (first | exact Upd.here _ | apply Upd.there)) (by rfl) (by first | rfl | (simp; done)) (by first | omega | decide | (simp; done)) (by exact free_zero _)) ?_
    rintro _ _ ⟨rfl, rfl⟩
    refine Z0 <| Zx <| Zq <| Zq <| Zg <| Zo (by repeat (first | exact Has.here _ | apply Has.there)) (p_load_agg (cs := #[_, _, _, _, _, _, _, _, _, _]) isAgg40 sizeOf40 Y (by first | decide | exact Nat.le_refl _ | (simp; done) | (simp; omega)) (by rfl)) ?_
    refine Zr [_] Y call75 Y rfl (r3_validc x) ?_
    rintro _ _ ⟨rfl, rfl⟩
    refine Zv (p_not_dec Y) <| Z0 <| Zn [1, 3, 4, 31] ?_
    refine Zx ?_
    refine at_if Y (fun hbad => ?_) (fun hbad => ?_)
    ·
     refine Zq <| Zg <| Za Y <| Z0 <| Zx <| at_ret <| Zt <| nx_block_ret <| Zt <| Zt <| nx_block_ret <| Zt ?_
     refine nx_end1 rfl results37 Y (by exact ⟨by rw [decide_eq_false (fun h9 : RecOk p cs => hbad (h9.all i x hx))], rfl⟩)
    ·
     refine at_skip <| Zx <| Zq <| Zg <| Zm Y <| Zv (p_gtr_nat (n := 0) Y Y) <| Z0 <| Zx ?_
     refine at_if Y (fun hpos => ?_) (fun hpos => ?_)
     ·
      refine Zq ?_
      obtain ⟨y, hy⟩ : ∃ y, cs[i - 1]? = some y := ⟨_, List.getElem?_eq_getElem (by omega)⟩
      obtain ⟨g2, off2, cur2, T2, zz2, e2, hm2, hsz2, hex2⟩ := hg (i - 1) y hy
      injection e2 with e2
      injection e2 with e21 e22
      subst e21 e22
      refine Zg <| Zh 1 underlying36 rfl rfl sizeOf34 Y <| Zl isAgg34 Y ?_
      refine Zm Y <| Yb (n := 1) Y Y ?_
      (refine op_v (p_indexAddr_nat underlying34 sizeOf40 Y Y ?_) ?_; (focus (first | omega | decide | (simp; done))))
      refine op_rm (cs := [(g, .cells cur2 T2 zz2)]) (by simp [hm2]) (p_load_agg (cs := #[.int .i64 y.t, .int .i64 y.k, .bool y.had, .int .i64 y.o.a, .int .i64 y.o.b, .int .i64 y.o.c, .bool y.has, .int .i64 y.n.a, .int .i64 y.n.b, .int .i64 y.n.c]) isAgg40 sizeOf40 Y (by omega) hex2) rfl rfl ?_
      refine Ze (w_alloc zeroValue40 (cs := #[_, _, _, _, _, _, _, _, _, _]) rfl) ?_
      rintro _ _ ⟨b3, rfl, rfl⟩
      refine Ze (w_store_agg sizeOf40 Y Y (by (simp [Value.oneCell']; done)) (by repeat (first | exact Upd.here _ | apply Upd.there)) (by rfl) (by first | rfl | (simp; done)) (by first | omega | decide | (simp; done)) (by exact free_zero _)) ?_
      rintro _ _ ⟨rfl, rfl⟩
      refine Z0 <| Zx <| Zq <| Zg <| Zh 0 underlying40 rfl rfl sizeOf3 Y <| Zl isAgg3 Y ?_
      refine Zh 0 underlying40 rfl rfl sizeOf3 Y <| Zl isAgg3 Y ?_
      refine Zv (p_gtr Y Y) <| Zm Y ?_
      refine ops_split (t := 45) Y rfl (fun ho1 => ?_) (fun ho1 => ?_)
      ·
       refine op_skip Y rfl <| op_skip Y rfl <| op_skip Y rfl <| op_skip Y rfl <| op_skip Y rfl <| op_skip Y rfl <| op_skip Y rfl <| op_skip Y rfl <| op_skip Y rfl <| op_skip Y rfl <| op_skip Y rfl <| op_skip Y rfl <| Zv (p_pick_t Y Y) <| Z0 <| Zn [1, 3, 58] ?_
       refine Zx <| at_then Y <| Zq <| Zg <| Za Y <| Z0 <| Zx <| at_ret <| nx_block_ret <| Zt <| Zt <| nx_block_ret <| Zt ?_
       refine nx_end1 rfl results37 Y (by exact ⟨by rw [decide_eq_false (fun h9 : RecOk p cs => by have h91 := h9.ord (i - 1) y x hy (by rw [show i - 1 + 1 = i by omega]; exact hx); unfold Chg.lt at h91; omega)], rfl⟩)
      ·
       refine Yf 0 underlying40 rfl rfl sizeOf3 Y <| Yl isAgg3 Y ?_
       refine Yf 0 underlying40 rfl rfl sizeOf3 Y <| Yl isAgg3 Y ?_
       refine Yg (p_eql Y Y) <| Zf Y Y ?_
       refine ops_split (t := 51) Y rfl (fun ho2 => ?_) (fun ho2 => ?_)
       ·
        refine Yf 1 underlying40 rfl rfl sizeOf3 Y <| Yl isAgg3 Y ?_
        refine Yf 1 underlying40 rfl rfl sizeOf3 Y <| Yl isAgg3 Y ?_
        refine Yg (p_geq Y Y) <| Yg (p_pick_t Y Y) <| Zv (p_pick_f Y Y) <| Z0 <| Zn [1, 3, 58] ?_
        refine Zx ?_
        refine at_if Y (fun ho3 => ?_) (fun ho3 => ?_)
        ·
         refine Zq <| Zg <| Za Y <| Z0 <| Zx <| at_ret <| nx_block_ret <| Zt <| Zt <| nx_block_ret <| Zt ?_
         refine nx_end1 rfl results37 Y (by exact ⟨by rw [decide_eq_false (fun h9 : RecOk p cs => by have h91 := h9.ord (i - 1) y x hy (by rw [show i - 1 + 1 = i by omega]; exact hx); unfold Chg.lt at h91; omega)], rfl⟩)
        ·
         refine at_skip <| nx_block_normal <| Zx <| Zg <| Zm Y <| Ya (n := 1) Y Y <| Za Y <| Z0 <| Zn [3, 1] ?_
         refine nx_againB (e' := [(3, _)]) (m := _) (H' := _) (by exact ⟨i + 1, rfl, ⟨by omega, all_more hall hx (Classical.not_not.1 hbad), ord_more hord hx (by (right; refine ⟨y, hy, ?_⟩; unfold Chg.lt; omega))⟩, rfl, rfl⟩)
       ·
        refine op_skip Y rfl <| op_skip Y rfl <| op_skip Y rfl <| op_skip Y rfl <| op_skip Y rfl <| Yg (p_pick_f Y Y) <| Zv (p_pick_f Y Y) <| Z0 <| Zn [1, 3, 58] ?_
        refine Zx <| at_else Y <| at_skip <| nx_block_normal <| Zx <| Zg <| Zm Y <| Ya (n := 1) Y Y <| Za Y <| Z0 <| Zn [3, 1] ?_
        refine nx_againB (e' := [(3, _)]) (m := _) (H' := _) (by exact ⟨i + 1, rfl, ⟨by omega, all_more hall hx (Classical.not_not.1 hbad), ord_more hord hx (by (right; refine ⟨y, hy, ?_⟩; unfold Chg.lt; omega))⟩, rfl, rfl⟩)
     ·
      refine at_skip <| nx_block_normal <| Zx <| Zg <| Zm Y <| Ya (n := 1) Y Y <| Za Y <| Z0 <| Zn [3, 1] ?_
      refine nx_againB (e' := [(3, _)]) (m := _) (H' := _) (by exact ⟨i + 1, rfl, ⟨by omega, all_more hall hx (Classical.not_not.1 hbad), ord_more hord hx (by (left; omega))⟩, rfl, rfl⟩)
   ·
    refine at_exit <| Zt <| Zt <| nx_block_exit <| Zx <| Zq <| Zg <| Za Y <| Z0 <| Zx <| at_ret ?_
    refine nx_end1 rfl results37 Y (by exact ⟨by rw [decide_eq_true (⟨by omega, by omega, fun j c hc => hall j c (by have := (List.getElem?_eq_some_iff.1 hc).1; omega) hc, fun j b c hb hc => hord j b c (by have := (List.getElem?_eq_some_iff.1 hc).1; omega) hb hc⟩ : RecOk p cs)], rfl⟩)

end Go.Proofs.YtkgmgmkbgnkdnaaGreat
