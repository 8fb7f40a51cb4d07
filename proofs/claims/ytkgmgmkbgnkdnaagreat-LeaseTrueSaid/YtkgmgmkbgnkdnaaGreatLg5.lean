/- The program's layer 3: ValidChange. -/
import Derived.Test.YtkgmgmkbgnkdnaaGreatEz
import Derived.Test.YtkgmgmkbgnkdnaaGreatLg4
namespace Go.Proofs.YtkgmgmkbgnkdnaaGreat
open Go.Proofs.Tryz
open Go Go.RowKit Gw
set_option linter.unusedVariables false
set_option linter.unusedSimpArgs false
set_option maxRecDepth 100000
attribute [local irreducible] Gw.At Gw.Nx Gw.Ops
def sndB (c : Chg) : Bool := if c.had then decide c.before.ok else decide (c.o = V3.zero)
def sndA (c : Chg) : Bool := if c.has then decide c.after.ok else decide (c.n = V3.zero)
theorem rw_sound_b (c : Chg) : DoesR Tryz.prog 40 #[.agg #[.int .i64 c.t, .int .i64 c.k, .bool c.had, .int .i64 c.o.a, .int .i64 c.o.b, .int .i64 c.o.c, .bool c.has, .int .i64 c.n.a, .int .i64 c.n.b, .int .i64 c.n.c], .bool c.had, .agg #[.int .i64 c.o.a, .int .i64 c.o.b, .int .i64 c.o.c]] [] (.bool (sndB c)) := rw_sound c c.had c.o
theorem rw_sound_a (c : Chg) : DoesR Tryz.prog 40 #[.agg #[.int .i64 c.t, .int .i64 c.k, .bool c.had, .int .i64 c.o.a, .int .i64 c.o.b, .int .i64 c.o.c, .bool c.has, .int .i64 c.n.a, .int .i64 c.n.b, .int .i64 c.n.c], .bool c.has, .agg #[.int .i64 c.n.a, .int .i64 c.n.b, .int .i64 c.n.c]] [] (.bool (sndA c)) := rw_sound c c.has c.n
theorem chg_ok_snd {c : Chg} (hne : c.had ≠ c.has ∨ (c.had = true ∧ c.o ≠ c.n)) : decide c.ok = (sndB c && sndA c) := by
  unfold sndB sndA
  cases h1 : c.had <;> cases h2 : c.has <;> simp_all [Chg.ok]
  all_goals (by_cases h3 : c.before.ok <;> by_cases h4 : c.after.ok <;> by_cases h5 : c.o = V3.zero <;> by_cases h6 : c.n = V3.zero <;> simp_all)
theorem chg_no {c : Chg} (h : c.had = c.has) (h2 : c.had = true → c.o = c.n) : decide c.ok = false := by
  cases h1 : c.had <;> simp_all [Chg.ok]
  all_goals (rw [← h] at *; simp_all)

set_option maxHeartbeats 4000000 in
theorem rw_validc (c : Chg) : DoesR Tryz.prog 25 #[.agg #[.int .i64 c.t, .int .i64 c.k, .bool c.had, .int .i64 c.o.a, .int .i64 c.o.b, .int .i64 c.o.c, .bool c.has, .int .i64 c.n.a, .int .i64 c.n.b, .int .i64 c.n.c]] [] (.bool (decide c.ok)) := by
 refine spec_enter func25 rfl ntmps25 rfl ?_
 intro u R
 refine Zb [0] ?_
 refine Zq <| Zg <| Ze (w_box Y (cs := #[_, _, _, _, _, _, _, _, _, _]) rfl) ?_
 rintro _ _ ⟨b1, rfl, rfl⟩
 refine Za Y <| Z0 <| Zx <| Zq <| Zg <| Zh 2 underlying40 rfl rfl sizeOf4 Y <| Zl isAgg4 Y ?_
 refine Zh 6 underlying40 rfl rfl sizeOf4 Y <| Zl isAgg4 Y ?_
 refine Zv (p_neq_bool underlying4 Y Y) <| Zm Y ?_
 refine ops_split (t := 9) Y rfl (fun hc1 => ?_) (fun hc1 => ?_)
 ·
  refine op_skip Y rfl <| op_skip Y rfl <| op_skip Y rfl <| op_skip Y rfl <| op_skip Y rfl <| op_skip Y rfl <| op_skip Y rfl <| op_skip Y rfl <| op_skip Y rfl <| Zv (p_pick_t Y Y) <| Za Y <| Z0 <| Zn [1, 3] ?_
  refine Zx <| Zq <| Zg <| Zm Y <| Zm Y <| op_rg Y (by repeat (first | exact Has.here _ | apply Has.there)) (p_load_agg (cs := #[_, _, _, _, _, _, _, _, _, _]) isAgg40 sizeOf40 Y (by first | decide | exact Nat.le_refl _ | (simp; done) | (simp; omega)) (by rfl)) rfl rfl ?_
  refine Yf 2 underlying40 rfl rfl sizeOf4 Y <| Yl isAgg4 Y ?_
  refine Yf 3 underlying40 rfl rfl sizeOf38 Y <| op_rg Y (by repeat (first | exact Has.here _ | apply Has.there)) (p_load_agg (cs := #[_, _, _]) isAgg38 sizeOf38 Y (by first | decide | exact Nat.le_refl _ | (simp; done) | (simp; omega)) (by rfl)) rfl rfl ?_
  refine Zr [_, _, _] Y call40 Y rfl (rw_sound_b c) ?_
  rintro _ _ ⟨rfl, rfl⟩
  refine Zv (p_pick_t Y Y) <| Zm Y ?_
  refine ops_split_bool (t := 29) Y rfl (fun hc2 => ?_) (fun hc2 => ?_)
  ·
   refine op_rg Y (by repeat (first | exact Has.here _ | apply Has.there)) (p_load_agg (cs := #[_, _, _, _, _, _, _, _, _, _]) isAgg40 sizeOf40 Y (by first | decide | exact Nat.le_refl _ | (simp; done) | (simp; omega)) (by rfl)) rfl rfl ?_
   refine Yf 6 underlying40 rfl rfl sizeOf4 Y <| Yl isAgg4 Y ?_
   refine Yf 7 underlying40 rfl rfl sizeOf38 Y <| op_rg Y (by repeat (first | exact Has.here _ | apply Has.there)) (p_load_agg (cs := #[_, _, _]) isAgg38 sizeOf38 Y (by first | decide | exact Nat.le_refl _ | (simp; done) | (simp; omega)) (by rfl)) rfl rfl ?_
   refine Zr [_, _, _] Y call40 Y rfl (rw_sound_a c) ?_
   rintro _ _ ⟨rfl, rfl⟩
   refine Zv (p_pick_t Y Y) <| Za Y <| Z0 <| Zn [2] ?_
   refine Zx <| at_ret ?_
   refine nx_end1 rfl results25 Y (by exact ⟨by rw [chg_ok_snd (.inl hc1), hc2, Bool.true_and], rfl⟩)
  ·
   refine op_skip Y rfl <| op_skip Y rfl <| op_skip Y rfl <| op_skip Y rfl <| op_skip Y rfl <| op_skip Y rfl <| Zv (p_pick_f Y Y) <| Za Y <| Z0 <| Zn [2] ?_
   refine Zx <| at_ret ?_
   refine nx_end1 rfl results25 Y (by exact ⟨by rw [chg_ok_snd (.inl hc1), hc2, Bool.false_and], rfl⟩)
 ·
  refine Yf 2 underlying40 rfl rfl sizeOf4 Y <| Yl isAgg4 Y ?_
  refine Zf Y Y ?_
  refine ops_split_bool (t := 12) Y rfl (fun hc3 => ?_) (fun hc3 => ?_)
  ·
   refine Yf 3 underlying40 rfl rfl sizeOf38 Y <| op_rg Y (by repeat (first | exact Has.here _ | apply Has.there)) (p_load_agg (cs := #[_, _, _]) isAgg38 sizeOf38 Y (by first | decide | exact Nat.le_refl _ | (simp; done) | (simp; omega)) (by rfl)) rfl rfl ?_
   refine Yf 7 underlying40 rfl rfl sizeOf38 Y <| op_rg Y (by repeat (first | exact Has.here _ | apply Has.there)) (p_load_agg (cs := #[_, _, _]) isAgg38 sizeOf38 Y (by first | decide | exact Nat.le_refl _ | (simp; done) | (simp; omega)) (by rfl)) rfl rfl ?_
   refine Yg (p_neq_arr3 (by kernel_rfl) underlying38 underlying3 isAgg3 sizeOf3 Y Y) ?_
   refine Yg (p_pick_t Y Y) <| Zv (p_pick_f Y Y) <| Za Y <| Z0 <| Zn [1, 3] ?_
   refine Zx <| Zq <| Zg <| Zm Y <| Zm Y ?_
   refine ops_split (t := 21) Y rfl (fun hc4 => ?_) (fun hc4 => ?_)
   ·
    refine op_rg Y (by repeat (first | exact Has.here _ | apply Has.there)) (p_load_agg (cs := #[_, _, _, _, _, _, _, _, _, _]) isAgg40 sizeOf40 Y (by first | decide | exact Nat.le_refl _ | (simp; done) | (simp; omega)) (by rfl)) rfl rfl ?_
    refine Yf 2 underlying40 rfl rfl sizeOf4 Y <| Yl isAgg4 Y ?_
    refine Yf 3 underlying40 rfl rfl sizeOf38 Y <| op_rg Y (by repeat (first | exact Has.here _ | apply Has.there)) (p_load_agg (cs := #[_, _, _]) isAgg38 sizeOf38 Y (by first | decide | exact Nat.le_refl _ | (simp; done) | (simp; omega)) (by rfl)) rfl rfl ?_
    refine Zr [_, _, _] Y call40 Y rfl (rw_sound_b c) ?_
    rintro _ _ ⟨rfl, rfl⟩
    refine Zv (p_pick_t Y Y) <| Zm Y ?_
    refine ops_split_bool (t := 29) Y rfl (fun hc5 => ?_) (fun hc5 => ?_)
    ·
     refine op_rg Y (by repeat (first | exact Has.here _ | apply Has.there)) (p_load_agg (cs := #[_, _, _, _, _, _, _, _, _, _]) isAgg40 sizeOf40 Y (by first | decide | exact Nat.le_refl _ | (simp; done) | (simp; omega)) (by rfl)) rfl rfl ?_
     refine Yf 6 underlying40 rfl rfl sizeOf4 Y <| Yl isAgg4 Y ?_
     refine Yf 7 underlying40 rfl rfl sizeOf38 Y <| op_rg Y (by repeat (first | exact Has.here _ | apply Has.there)) (p_load_agg (cs := #[_, _, _]) isAgg38 sizeOf38 Y (by first | decide | exact Nat.le_refl _ | (simp; done) | (simp; omega)) (by rfl)) rfl rfl ?_
     refine Zr [_, _, _] Y call40 Y rfl (rw_sound_a c) ?_
     rintro _ _ ⟨rfl, rfl⟩
     refine Zv (p_pick_t Y Y) <| Za Y <| Z0 <| Zn [2] ?_
     refine Zx <| at_ret ?_
     refine nx_end1 rfl results25 Y (by exact ⟨by rw [chg_ok_snd (.inr ⟨hc3, hc4⟩), hc5, Bool.true_and], rfl⟩)
    ·
     refine op_skip Y rfl <| op_skip Y rfl <| op_skip Y rfl <| op_skip Y rfl <| op_skip Y rfl <| op_skip Y rfl <| Zv (p_pick_f Y Y) <| Za Y <| Z0 <| Zn [2] ?_
     refine Zx <| at_ret ?_
     refine nx_end1 rfl results25 Y (by exact ⟨by rw [chg_ok_snd (.inr ⟨hc3, hc4⟩), hc5, Bool.false_and], rfl⟩)
   ·
    refine op_skip Y rfl <| op_skip Y rfl <| op_skip Y rfl <| op_skip Y rfl <| op_skip Y rfl <| op_skip Y rfl <| Zv (p_pick_f Y Y) <| Zm Y <| op_skip Y rfl <| op_skip Y rfl <| op_skip Y rfl <| op_skip Y rfl <| op_skip Y rfl <| op_skip Y rfl <| Zv (p_pick_f Y Y) <| Za Y <| Z0 <| Zn [2] ?_
    refine Zx <| at_ret ?_
    refine nx_end1 rfl results25 Y (by exact ⟨by rw [chg_no (Classical.not_not.1 hc1) (fun _ => Classical.not_not.1 hc4)], rfl⟩)
  ·
   refine op_skip Y rfl <| op_skip Y rfl <| op_skip Y rfl <| op_skip Y rfl <| op_skip Y rfl <| Yg (p_pick_f Y Y) <| Zv (p_pick_f Y Y) <| Za Y <| Z0 <| Zn [1, 3] ?_
   refine Zx <| Zq <| Zg <| Zm Y <| Zm Y <| op_skip Y rfl <| op_skip Y rfl <| op_skip Y rfl <| op_skip Y rfl <| op_skip Y rfl <| op_skip Y rfl <| Zv (p_pick_f Y Y) <| Zm Y <| op_skip Y rfl <| op_skip Y rfl <| op_skip Y rfl <| op_skip Y rfl <| op_skip Y rfl <| op_skip Y rfl <| Zv (p_pick_f Y Y) <| Za Y <| Z0 <| Zn [2] ?_
   refine Zx <| at_ret ?_
   refine nx_end1 rfl results25 Y (by exact ⟨by rw [chg_no (Classical.not_not.1 hc1) (fun h9 => by rw [hc3] at h9; cases h9)], rfl⟩)

theorem chg_t {c : Chg} (h : c.ok) : 0 ≤ c.t := by
  obtain ⟨h1, h2, _, _⟩ := h
  have hb : c.had = true → c.before.ok := fun h9 => Classical.byContradiction fun hn => h2 (.inl ⟨h9, hn⟩)
  have ha : c.has = true → c.after.ok := fun h9 => Classical.byContradiction fun hn => h2 (.inr ⟨h9, hn⟩)
  cases e1 : c.had with
  | true => have := (hb e1).2.1.1; rw [before_t e1] at this; exact this
  | false =>
    cases e2 : c.has with
    | true => have := (ha e2).2.1.1; rw [after_t e2] at this; exact this
    | false => exact absurd (.inl ⟨by simp [e1], by simp [e2]⟩) h1
theorem last_lt {p : Int} {cs : List Chg} {i : Nat} {x y : Chg} (hl : i = 0 ∧ y.t = -1 ∨ 0 < i ∧ cs[i - 1]? = some y) (h : RecOk p cs) (hx : cs[i]? = some x) : y.lt x := by
  rcases hl with ⟨h0, h1⟩ | ⟨h0, h1⟩
  · left; have := chg_t (h.all i x hx); omega
  · exact h.ord (i - 1) y x h1 (by rw [show i - 1 + 1 = i by omega]; exact hx)
theorem last_ex {cs : List Chg} {i : Nat} {x y : Chg} (hl : i = 0 ∧ y.t = -1 ∨ 0 < i ∧ cs[i - 1]? = some y) (h : y.lt x) : i = 0 ∨ ∃ y, cs[i - 1]? = some y ∧ y.lt x := by
  rcases hl with ⟨h0, h1⟩ | ⟨h0, h1⟩
  · exact .inl h0
  · exact .inr ⟨y, h1, h⟩

theorem rw_validr (p : Int) (q : Option Addr) (cap : Nat) (cs : List Chg) (M : List Chunk) (hO : ChgsIn M (.slice q cs.length cap) cs) : DoesR Tryz.prog 84 #[.agg #[.int .i64 p, .slice q cs.length cap]] [M] (.bool (decide (RecOk p cs))) := by
 have hml : maxLen = 9223372036854775807 := rfl
 obtain ⟨p9, cap9, e9, hol, hg⟩ := hO
 injection e9 with e91 e92 e93
 subst e91 e93
 refine spec_enter func84 rfl ntmps84 rfl ?_
 intro u R
 refine Zb [0] ?_
 refine Zq <| Zg <| Ze (w_box Y (cs := #[_, _]) rfl) ?_
 rintro _ _ ⟨b1, rfl, rfl⟩
 refine Za Y <| Z0 <| Zx <| Zq <| Zq <| Zg <| Zh 0 underlying36 rfl rfl sizeOf3 Y <| Zl isAgg3 Y ?_
 refine Ze (w_buildSlice (vs := [_]) (cs := [_]) underlying114 sizeOf3 zeroValue3 Y rfl rfl rfl rfl rfl) ?_
 rintro _ _ ⟨b2, rfl, rfl⟩
 refine Zr [_, _, _] Y call103 Y rfl (rw_within1 _ 0 1 _ _ _ _ _ p rfl) ?_
 rintro _ _ ⟨rfl, rfl⟩
 refine Zv (p_not_dec Y) <| Zm Y ?_
 refine ops_split (t := 11) Y rfl (fun hp => ?_) (fun hp => ?_)
 ·
  refine op_skip Y rfl <| op_skip Y rfl <| op_skip Y rfl <| op_skip Y rfl <| op_skip Y rfl <| op_skip Y rfl <| Zv (p_pick_t Y Y) <| Z0 <| Zn [1, 18] ?_
  refine Zx <| at_then Y <| Zq <| Zg <| Za Y <| Z0 <| Zx <| at_ret <| Zt ?_
  refine nx_end1 rfl results84 Y (by exact ⟨by rw [decide_eq_false (fun h9 : RecOk p cs => by have h91 := h9.pos; have h92 := h9.len; first | exact hp h91 | (apply hl; omega))], rfl⟩)
 ·
  refine Yf 1 underlying36 rfl rfl sizeOf34 Y <| Yl isAgg34 Y ?_
  refine Yg (p_len_slice underlying34 Y) <| Ze (w_buildSlice (vs := [_]) (cs := [_]) underlying114 sizeOf3 zeroValue3 Y rfl rfl rfl rfl rfl) ?_
  rintro _ _ ⟨b3, rfl, rfl⟩
  refine Zr [_, _, _] Y call103 Y rfl (rw_within1 _ 0 1 _ _ _ _ _ (cs.length : Int) rfl) ?_
  rintro _ _ ⟨rfl, rfl⟩
  refine Yg (p_not_dec Y) <| Zv (p_pick_f Y Y) <| Z0 <| Zn [1, 18] ?_
  refine Zx ?_
  refine at_if Y (fun hl => ?_) (fun hl => ?_)
  ·
   refine Zq <| Zg <| Za Y <| Z0 <| Zx <| at_ret <| Zt ?_
   refine nx_end1 rfl results84 Y (by exact ⟨by rw [decide_eq_false (fun h9 : RecOk p cs => by have h91 := h9.pos; have h92 := h9.len; first | exact hp h91 | (apply hl; omega))], rfl⟩)
  ·
   refine at_skip <| Zx <| Zq <| Zg <| Zv (p_build (vs := [(0, _)]) (cs := #[_, _, _, _, _, _, _, _, _, _]) Y (run_build_struct (pl := #[(0, 1), (1, 1), (2, 1), (3, 3), (6, 1), (7, 3)]) zeroValue40 underlying40 (fun _ => by kernel_rfl) rfl)) ?_
   refine Ze (w_alloc zeroValue40 (cs := #[_, _, _, _, _, _, _, _, _, _]) rfl) ?_
   rintro _ _ ⟨lb, rfl, rfl⟩
   refine Ze (w_store_agg sizeOf40 Y Y (by (simp [Value.oneCell', Value.cells]; done)) (by repeat (first | exact Upd.here _ | apply Upd.there)) (by rfl) (by first | rfl | (simp; done)) (by first | decide | exact Nat.le_refl _ | (simp; done) | (simp; omega)) (by exact free_zero _)) ?_
   rintro _ _ ⟨rfl, rfl⟩
   refine Z0 <| Zx <| Zq <| Zq <| Zg <| Zh 1 underlying36 rfl rfl sizeOf34 Y <| Zl isAgg34 Y ?_
   refine Zv (p_len_slice underlying34 Y) <| Zm Y <| Z0 <| Zx <| at_block <| Zb [23, 3, 21, 22] ?_
   refine at_loopB (e0 := [(23, _)]) (H0 := _) (n := _) (fun m e H => ∃ (i : Nat) (y : Chg), m = cs.length - i ∧ (i ≤ cs.length ∧ (∀ (j : Nat) (c : Chg), j < i → cs[j]? = some c → c.ok) ∧ (∀ (j : Nat) (b c : Chg), j + 1 < i → cs[j]? = some b → cs[j + 1]? = some c → b.lt c) ∧ (i = 0 ∧ y.t = -1 ∨ 0 < i ∧ cs[i - 1]? = some y)) ∧ e = [(23, .int .i64 (i : Int))] ∧ H = [[(lb, .cells #[.int .i64 y.t, .int .i64 y.k, .bool y.had, .int .i64 y.o.a, .int .i64 y.o.b, .int .i64 y.o.c, .bool y.has, .int .i64 y.n.a, .int .i64 y.n.b, .int .i64 y.n.c] 40 (0, 0))]]) (by exact ⟨0, ⟨-1, 0, false, V3.zero, false, V3.zero⟩, rfl, ⟨by omega, by intro j c hj; omega, by intro j b c hj; omega, .inl ⟨rfl, rfl⟩⟩, rfl, rfl⟩) (by repeat (first | exact Pull.nil _ | (apply Pull.cons; (focus (repeat (first | exact One.here _ _ | apply One.there)))))) ?_
   rintro _ _ _ ⟨i, y, rfl, ⟨hi, hall, hord, hlast⟩, rfl, rfl⟩
   refine Zq <| Zg <| Zv (p_lss_nat Y Y) <| Z0 <| Zx <| Zq ?_
   refine at_if Y (fun hlt => ?_) (fun hlt => ?_)
   ·
    obtain ⟨x, hx⟩ : ∃ x, cs[i]? = some x := ⟨_, List.getElem?_eq_getElem hlt⟩
    obtain ⟨g, off, cur, T, zz, rfl, hm, hsz, hex⟩ := hg i x hx
    refine at_skip <| Zx <| Zq <| at_block <| Zq <| Zg ?_
    (refine op_v (p_indexAddr_nat underlying34 sizeOf40 Y Y ?_) ?_; (focus (first | omega | decide | (simp; done))))
    refine op_rm (cs := [(g, .cells cur T zz)]) (by simp [hm]) (p_load_agg (cs := #[.int .i64 x.t, .int .i64 x.k, .bool x.had, .int .i64 x.o.a, .int .i64 x.o.b, .int .i64 x.o.c, .bool x.has, .int .i64 x.n.a, .int .i64 x.n.b, .int .i64 x.n.c]) isAgg40 sizeOf40 Y (by omega) hex) rfl rfl ?_
    refine Ze (w_alloc zeroValue40 (cs := #[_, _, _, _, _, _, _, _, _, _]) rfl) ?_
    rintro _ _ ⟨b5, rfl, rfl⟩
    refine Ze (w_store_agg sizeOf40 Y Y (by (simp [Value.oneCell']; done)) (by repeat (first | exact Upd.here _ | apply Upd.there)) (by rfl) (by first | rfl | (simp; done)) (by first | omega | decide | (simp; done)) (by exact free_zero _)) ?_
    rintro _ _ ⟨rfl, rfl⟩
    refine Z0 <| Zx <| Zq <| Zq <| Zg <| Zo (by repeat (first | exact Has.here _ | apply Has.there)) (p_load_agg (cs := #[_, _, _, _, _, _, _, _, _, _]) isAgg40 sizeOf40 Y (by first | decide | exact Nat.le_refl _ | (simp; done) | (simp; omega)) (by rfl)) ?_
    refine Zr [_] Y call25 Y rfl (rw_validc x) ?_
    rintro _ _ ⟨rfl, rfl⟩
    refine Zv (p_not_dec Y) <| Zm Y ?_
    refine ops_split (t := 30) Y rfl (fun hg1 => ?_) (fun hg1 => ?_)
    ·
     refine op_skip Y rfl <| op_skip Y rfl <| op_skip Y rfl <| op_skip Y rfl <| op_skip Y rfl <| Zv (p_pick_t Y Y) <| Zm Y <| op_skip Y rfl <| op_skip Y rfl <| op_skip Y rfl <| op_skip Y rfl <| op_skip Y rfl <| op_skip Y rfl <| op_skip Y rfl <| op_skip Y rfl <| op_skip Y rfl <| op_skip Y rfl <| op_skip Y rfl <| op_skip Y rfl <| Zv (p_pick_t Y Y) <| Z0 <| Zn [3, 5, 21, 22, 23, 50] ?_
     refine Zx <| at_then Y <| Zq <| Zg <| Za Y <| Z0 <| Zx <| at_ret <| Zt <| nx_block_ret <| Zt <| Zt <| nx_block_ret <| Zt ?_
     refine nx_end1 rfl results84 Y (by exact ⟨by rw [decide_eq_false (fun h9 : RecOk p cs => by have h91 := last_lt hlast h9 hx; have h92 := h9.all i x hx; unfold Chg.lt at h91; first | exact hg1 h92 | omega)], rfl⟩)
    ·
     refine Yf 0 underlying40 rfl rfl sizeOf3 Y <| Yl isAgg3 Y ?_
     refine Yf 0 underlying40 rfl rfl sizeOf3 Y <| Yl isAgg3 Y ?_
     refine Yg (p_lss Y Y) <| Zv (p_pick_f Y Y) <| Zm Y ?_
     refine ops_split (t := 37) Y rfl (fun hg2 => ?_) (fun hg2 => ?_)
     ·
      refine op_skip Y rfl <| op_skip Y rfl <| op_skip Y rfl <| op_skip Y rfl <| op_skip Y rfl <| op_skip Y rfl <| op_skip Y rfl <| op_skip Y rfl <| op_skip Y rfl <| op_skip Y rfl <| op_skip Y rfl <| op_skip Y rfl <| Zv (p_pick_t Y Y) <| Z0 <| Zn [3, 5, 21, 22, 23, 50] ?_
      refine Zx <| at_then Y <| Zq <| Zg <| Za Y <| Z0 <| Zx <| at_ret <| Zt <| nx_block_ret <| Zt <| Zt <| nx_block_ret <| Zt ?_
      refine nx_end1 rfl results84 Y (by exact ⟨by rw [decide_eq_false (fun h9 : RecOk p cs => by have h91 := last_lt hlast h9 hx; have h92 := h9.all i x hx; unfold Chg.lt at h91; first | exact hg1 h92 | omega)], rfl⟩)
     ·
      refine Yf 0 underlying40 rfl rfl sizeOf3 Y <| Yl isAgg3 Y ?_
      refine Yf 0 underlying40 rfl rfl sizeOf3 Y <| Yl isAgg3 Y ?_
      refine Yg (p_eql Y Y) <| Zf Y Y ?_
      refine ops_split (t := 43) Y rfl (fun hg3 => ?_) (fun hg3 => ?_)
      ·
       refine Yf 1 underlying40 rfl rfl sizeOf3 Y <| Yl isAgg3 Y ?_
       refine Yf 1 underlying40 rfl rfl sizeOf3 Y <| Yl isAgg3 Y ?_
       refine Yg (p_leq Y Y) <| Yg (p_pick_t Y Y) <| Zv (p_pick_f Y Y) <| Z0 <| Zn [3, 5, 21, 22, 23, 50] ?_
       refine Zx ?_
       refine at_if Y (fun ho => ?_) (fun ho => ?_)
       ·
        refine Zq <| Zg <| Za Y <| Z0 <| Zx <| at_ret <| Zt <| nx_block_ret <| Zt <| Zt <| nx_block_ret <| Zt ?_
        refine nx_end1 rfl results84 Y (by exact ⟨by rw [decide_eq_false (fun h9 : RecOk p cs => by have h91 := last_lt hlast h9 hx; have h92 := h9.all i x hx; unfold Chg.lt at h91; first | exact hg1 h92 | omega)], rfl⟩)
       ·
        refine at_skip <| Zx <| Zg <| Zo (by repeat (first | exact Has.here _ | apply Has.there)) (p_load_agg (cs := #[.int .i64 x.t, .int .i64 x.k, .bool x.had, .int .i64 x.o.a, .int .i64 x.o.b, .int .i64 x.o.c, .bool x.has, .int .i64 x.n.a, .int .i64 x.n.b, .int .i64 x.n.c]) isAgg40 sizeOf40 Y (by first | decide | exact Nat.le_refl _ | (simp; done) | (simp; omega)) (by rfl)) ?_
        refine Ze (w_store_agg sizeOf40 Y Y (by (simp [Value.oneCell']; done)) (by repeat (first | exact Upd.here _ | apply Upd.there)) (by rfl) (by first | rfl | (simp; done)) (by first | decide | exact Nat.le_refl _ | (simp; done) | (simp; omega)) (by exact free_zero _)) ?_
        rintro _ _ ⟨rfl, rfl⟩
        refine Z0 <| nx_block_normal <| Zx <| Zg <| Ya (n := 1) Y Y <| Zm Y <| Z0 <| Zn [23, 3, 21, 22] ?_
        refine nx_againB (e' := [(23, _)]) (m := _) (H' := _) (by exact ⟨i + 1, x, rfl, ⟨by omega, all_more hall hx (Classical.not_not.1 hg1), ord_more hord hx (last_ex hlast (by unfold Chg.lt; omega)), .inr ⟨by omega, hx⟩⟩, rfl, rfl⟩)
      ·
       refine op_skip Y rfl <| op_skip Y rfl <| op_skip Y rfl <| op_skip Y rfl <| op_skip Y rfl <| Yg (p_pick_f Y Y) <| Zv (p_pick_f Y Y) <| Z0 <| Zn [3, 5, 21, 22, 23, 50] ?_
       refine Zx <| at_else Y <| at_skip <| Zx <| Zg <| Zo (by repeat (first | exact Has.here _ | apply Has.there)) (p_load_agg (cs := #[.int .i64 x.t, .int .i64 x.k, .bool x.had, .int .i64 x.o.a, .int .i64 x.o.b, .int .i64 x.o.c, .bool x.has, .int .i64 x.n.a, .int .i64 x.n.b, .int .i64 x.n.c]) isAgg40 sizeOf40 Y (by first | decide | exact Nat.le_refl _ | (simp; done) | (simp; omega)) (by rfl)) ?_
       refine Ze (w_store_agg sizeOf40 Y Y (by (simp [Value.oneCell']; done)) (by repeat (first | exact Upd.here _ | apply Upd.there)) (by rfl) (by first | rfl | (simp; done)) (by first | decide | exact Nat.le_refl _ | (simp; done) | (simp; omega)) (by exact free_zero _)) ?_
       rintro _ _ ⟨rfl, rfl⟩
       refine Z0 <| nx_block_normal <| Zx <| Zg <| Ya (n := 1) Y Y <| Zm Y <| Z0 <| Zn [23, 3, 21, 22] ?_
       refine nx_againB (e' := [(23, _)]) (m := _) (H' := _) (by exact ⟨i + 1, x, rfl, ⟨by omega, all_more hall hx (Classical.not_not.1 hg1), ord_more hord hx (last_ex hlast (by unfold Chg.lt; omega)), .inr ⟨by omega, hx⟩⟩, rfl, rfl⟩)
   ·
    refine at_exit <| Zt <| Zt <| nx_block_exit <| Zx <| Zq <| Zg <| Za Y <| Z0 <| Zx <| at_ret ?_
    refine nx_end1 rfl results84 Y (by exact ⟨by rw [decide_eq_true (⟨by omega, by omega, fun j c hc => hall j c (by have := (List.getElem?_eq_some_iff.1 hc).1; omega) hc, fun j b c hb hc => hord j b c (by have := (List.getElem?_eq_some_iff.1 hc).1; omega) hb hc⟩ : RecOk p cs)], rfl⟩)

end Go.Proofs.YtkgmgmkbgnkdnaaGreat
