/- statetree: Prove. -/
import Derived.Test.YtkgmgmkbgnkdnaaGreatDoorEz
import Derived.Test.YtkgmgmkbgnkdnaaGreatDoorTr6
namespace Go.Proofs.YtkgmgmkbgnkdnaaGreatDoor
open Go.Proofs.Tryz
open Go Go.RowKit Gw
set_option linter.unusedVariables false
set_option linter.unusedSimpArgs false
set_option maxRecDepth 100000
attribute [local irreducible] Gw.At Gw.Nx Gw.Ops
def firstN (pd : RowM → Bool) (l : List RowM) : Nat := (l.takeWhile (fun x => !pd x)).length
theorem first_le (pd : RowM → Bool) (l : List RowM) : firstN pd l ≤ l.length := (List.takeWhile_sublist _).length_le
theorem first_at {pd : RowM → Bool} : ∀ {l : List RowM} {i : Nat} {x : RowM}, l[i]? = some x → pd x = true → (∀ (j : Nat) (y : RowM), j < i → l[j]? = some y → pd y = false) → firstN pd l = i
  | [], i, x, hx, _, _ => by simp at hx
  | z :: l, 0, x, hx, hp, _ => by
    simp only [List.getElem?_cons_zero, Option.some.injEq] at hx
    subst hx
    simp [firstN, hp]
  | z :: l, i + 1, x, hx, hp, hno => by
    simp only [List.getElem?_cons_succ] at hx
    have h0 := hno 0 z (by omega) rfl
    have ih := first_at (l := l) hx hp (fun j y hj hy => hno (j + 1) y (by omega) hy)
    unfold firstN at ih ⊢
    rw [List.takeWhile_cons, if_pos (by simp [h0]), List.length_cons, ih]
theorem first_none {pd : RowM → Bool} : ∀ {l : List RowM}, (∀ (j : Nat) (y : RowM), l[j]? = some y → pd y = false) → firstN pd l = l.length
  | [], _ => rfl
  | z :: l, hno => by
    have h0 := hno 0 z rfl
    have ih := first_none (l := l) (fun j y hy => hno (j + 1) y hy)
    unfold firstN at ih ⊢
    rw [List.takeWhile_cons, if_pos (by simp [h0]), List.length_cons, ih, List.length_cons]
def idxV (n len : Nat) : Int := if n < len then (n : Int) else -1
def geV (c : Nat) (lo : Int) (r : RowM) : Bool := decide (lo ≤ valN r c)
def gtV (c : Nat) (hi : Int) (r : RowM) : Bool := decide (hi < valN r c)

theorem pred2 (v lo : Int) (bl : Nat) : DoesR Tryz.prog 57 #[.int .i64 v, .pointer (some ⟨bl, 0, none⟩)] [[(bl, .cells #[.int .i64 lo] 3 (0, 0))]] (.bool (decide (lo ≤ v))) := by
 refine spec_enter func57 rfl ntmps57 rfl ?_
 intro u R
 refine Zb [0, 1] ?_
 refine Zq <| Zg <| Za Y <| Z0 <| Zx <| Zq <| Zg <| Zm Y <| Zl isAgg3 Y ?_
 refine Zv (p_geq Y Y) <| Za Y <| Z0 <| Zx <| at_ret ?_
 refine nx_end1 rfl results57 Y (by exact ⟨rfl, rfl⟩)

theorem pin2 (r : RowM) (c : Nat) (hc : c ≤ 3) (lo : Int) (bi bc bl : Nat) : DoesR Tryz.prog 55 #[.agg #[.int .i64 r.t, .int .i64 r.k, .int .i64 r.v.a, .int .i64 r.v.b, .int .i64 r.v.c], .pointer (some ⟨bi, 0, none⟩), .pointer (some ⟨bc, 0, none⟩)] [[(bi, .cells #[.func (.func 57) #[] #[.pointer (some ⟨bl, 0, none⟩)]] 102 (0, 0))], [(bc, .cells #[.int .i64 (c : Int)] 3 (0, 0))], [(bl, .cells #[.int .i64 lo] 3 (0, 0))]] (.bool (geV c lo r)) := by
 refine spec_enter func55 rfl ntmps55 rfl ?_
 intro u R
 refine Zb [0, 1, 2] ?_
 refine Zq <| Zg <| Ze (w_box Y (cs := #[_, _, _, _, _]) rfl) ?_
 rintro _ _ ⟨b1, rfl, rfl⟩
 refine Za Y <| Z0 <| Zx <| Zq <| at_draw (n := 6) (0 :: 0 :: 0 :: 6 :: 15 :: 31 :: []) 24 (by kernel_rfl) (by kernel_rfl) rfl ?_
 refine Zj 1 0 rfl isAgg102 Y ?_
 refine lin_r (D' := 3) 1 rfl rfl rfl Wh (p_load_agg (cs := #[_, _, _, _, _]) isAgg67 sizeOf67 Y Wn (by rfl)) ?_
 refine Zj 7 2 rfl isAgg3 Y ?_
 refine Yz 3 6 15 [2, 1, 0] [false, false, true] [(0, (_, _))] rfl Y rfl rfl rfl rfl (Zu [_, _] Y call56 Y rfl (rw_value r c hc)) ?_
 rintro _ _ ⟨rfl, rfl⟩
 refine ⟨Zk (keep_nil), ?_⟩
 refine Yz 4 15 31 [0] [false] [] rfl Y rfl rfl rfl rfl (Zu [_] Y call57 Y rfl (pred2 (valN r c) lo bl)) ?_
 rintro _ _ ⟨rfl, rfl⟩
 refine ⟨keep_nil, ?_⟩
 refine Zi 63 5 rfl (p_assign Y) <| lin_nil ?_
 refine Zx <| at_ret ?_
 refine nx_end1 rfl results55 Y (by exact ⟨rfl, rfl⟩)

theorem idx2 {M : List Chunk} {v : Value} {L : List RowM} (hv : RowsU M v L) (hn : L.length ≤ 1000000) (c : Nat) (hc : c ≤ 3) (lo : Int) (bi bc bl : Nat) : DoesR Tryz.prog 54 #[v, .func (.func 55) #[] #[.pointer (some ⟨bi, 0, none⟩), .pointer (some ⟨bc, 0, none⟩)]] [[(bi, .cells #[.func (.func 57) #[] #[.pointer (some ⟨bl, 0, none⟩)]] 102 (0, 0))], [(bc, .cells #[.int .i64 (c : Int)] 3 (0, 0))], [(bl, .cells #[.int .i64 lo] 3 (0, 0))], M] (.int .i64 (idxV (firstN (geV c lo) L) L.length)) := by
 have hml : maxLen = 9223372036854775807 := rfl
 obtain ⟨p, cap, rfl, hl, hg⟩ := hv
 refine spec_enter func54 rfl ntmps54 rfl ?_
 intro u R
 refine Zb [0, 1] ?_
 refine Zq <| Zg <| Za Y <| Z0 <| Zx <| Zq <| Zq <| Zg <| Zm Y <| Zv (p_len_slice underlying38 Y) <| Zm Y <| Z0 <| Zx <| at_block <| Zb [8, 0, 1, 7] ?_
 refine at_loopB (e0 := [(8, _)]) (H0 := _) (n := _) (fun m e H => ∃ (i : Nat), m = L.length - i ∧ (i ≤ L.length ∧ ∀ (j : Nat) (y : RowM), j < i → L[j]? = some y → geV c lo y = false) ∧ e = [(8, .int .i64 (i : Int))] ∧ H = []) (by exact ⟨0, rfl, ⟨Nat.zero_le _, by intro j y hj; omega⟩, rfl, rfl⟩) Wp ?_
 rintro _ _ _ ⟨i, rfl, ⟨hi, hno⟩, rfl, rfl⟩
 refine Zq <| Zg <| Zv (p_lss_nat Y Y) <| Z0 <| Zx <| Zq ?_
 refine at_if Y (fun hlt => ?_) (fun hlt => ?_)
 ·
  obtain ⟨x, hx⟩ : ∃ x, L[i]? = some x := ⟨_, List.getElem?_eq_getElem hlt⟩
  obtain ⟨g, off, cur, T, zz, rfl, hm9, hsz9, hex9⟩ := hg i x hx
  refine at_skip <| Zx <| Zq <| at_block <| Zq <| Zg <| Zm Y <| Za Y <| Z0 <| Zx <| Zq <| Zg <| Zm Y <| Zm Y <| Zm Y ?_
  (refine op_v (p_indexAddr_nat underlying38 sizeOf67 Y Y ?_) ?_; (focus (omega)))
  refine op_rm (cs := [(g, .cells cur T zz)]) (by simp [hm9]) (p_load_agg (cs := #[.int .i64 x.t, .int .i64 x.k, .int .i64 x.v.a, .int .i64 x.v.b, .int .i64 x.v.c]) isAgg67 sizeOf67 Y (by omega) hex9) rfl rfl ?_
  refine Xr [_] Y call55 Y rfl (pin2 x c hc lo bi bc bl) ?_
  refine Z0 <| Zx ?_
  refine at_if_bool Y (fun hp => ?_) (fun hp => ?_)
  ·
   refine Zq <| Zg <| Zm Y <| Za Y <| Z0 <| Zx <| at_ret <| nx_block_ret <| Zt <| Zt <| nx_block_ret <| Zt ?_
   refine nx_end1 rfl results54 Y (by exact ⟨by rw [first_at hx hp hno]; unfold idxV; rw [if_pos hlt], rfl⟩)
  refine at_skip <| nx_block_normal <| Zx <| Zg <| Ya (n := 1) Y Y <| Zm Y <| Z0 <| Zn [8, 0, 1, 7] ?_
  refine nx_againB (e' := [(8, _)]) (m := _) (H' := _) (by exact ⟨i + 1, rfl, ⟨by omega, fun j y hj hy => by rcases Nat.lt_or_ge j i with h9 | h9; exact hno j y h9 hy; obtain rfl : j = i := (by omega); rw [hx] at hy; injection hy with hy; rw [← hy]; exact hp⟩, rfl, rfl⟩)
 have hfn : firstN (geV c lo) L = L.length := first_none (fun j y hy => hno j y (by have := (List.getElem?_eq_some_iff.1 hy).1; omega) hy)
 refine at_exit <| Zt <| Zt <| nx_block_exit <| Zx <| Zq <| Zg <| Za Y <| Z0 <| Zx <| at_ret ?_
 refine nx_end1 rfl results54 Y (by exact ⟨by rw [hfn]; unfold idxV; rw [if_neg (by omega)], rfl⟩)

theorem pone2 {M : List Chunk} {vr ve : Value} {L : List RowM} (hv : RowsU M vr L) (hn : L.length ≤ 1000000) (c : Nat) (hc : c ≤ 3) (lo : Int) (bo bc bl : Nat) : DoesR Tryz.prog 53 #[.func (.func 57) #[] #[.pointer (some ⟨bl, 0, none⟩)], .pointer (some ⟨bo, 0, none⟩), .pointer (some ⟨bc, 0, none⟩)] [[(bo, .cells #[vr, ve] 130 (0, 0))], [(bc, .cells #[.int .i64 (c : Int)] 3 (0, 0))], [(bl, .cells #[.int .i64 lo] 3 (0, 0))], M] (.int .i64 ((firstN (geV c lo) L : Nat) : Int)) := by
 have hml : maxLen = 9223372036854775807 := rfl
 obtain ⟨p, cap, rfl, hl, hg⟩ := id hv
 have hfl := first_le (geV c lo) L
 refine spec_enter func53 rfl ntmps53 rfl ?_
 intro u R
 refine Zb [0, 1, 2] ?_
 refine Zq <| Zg <| Ze (w_box Y (cs := #[_]) rfl) ?_
 rintro _ _ ⟨bi, rfl, rfl⟩
 refine Za Y <| Z0 <| Zx <| Zq <| Zg <| Zh 0 underlying130 rfl rfl sizeOf38 Y <| Zl isAgg38 Y ?_
 refine Zv (p_makeFunc (vs := []) (us := [_, _]) Y Y) ?_
 refine Xr [_, _] Y call54 Y rfl (idx2 hv hn c hc lo bi bc bl) ?_
 refine Za Y <| Z0 <| Zx <| Zq <| Zq <| Zg <| Zm Y <| Zv (p_lss Y Y) <| Z0 <| Zx ?_
 refine at_if Y (fun hneg => ?_) (fun hneg => ?_)
 ·
  have hge : firstN (geV c lo) L = L.length := by
    rcases Nat.lt_or_ge (firstN (geV c lo) L) L.length with h9 | h9
    · unfold idxV at hneg; rw [if_pos h9] at hneg; omega
    · omega
  refine Zq <| Zg <| Zh 0 underlying130 rfl rfl sizeOf38 Y <| Zl isAgg38 Y ?_
  refine Zv (p_len_slice underlying38 Y) <| Za Y <| Z0 <| Zn [4] ?_
  refine Zx <| at_ret <| Zt ?_
  refine nx_end1 rfl results53 Y (by exact ⟨by rw [hge], rfl⟩)
 have hlt : firstN (geV c lo) L < L.length := by
   rcases Nat.lt_or_ge (firstN (geV c lo) L) L.length with h9 | h9
   · exact h9
   · unfold idxV at hneg; rw [if_neg (by omega)] at hneg; omega
 refine at_skip <| Zx <| Zq <| Zg <| Zm Y <| Za Y <| Z0 <| Zx <| at_ret ?_
 refine nx_end1 rfl results53 Y (by exact ⟨by unfold idxV; rw [if_pos hlt], rfl⟩)

theorem pred3 (v lo : Int) (bl : Nat) : DoesR Tryz.prog 58 #[.int .i64 v, .pointer (some ⟨bl, 0, none⟩)] [[(bl, .cells #[.int .i64 lo] 3 (0, 0))]] (.bool (decide (lo < v))) := by
 refine spec_enter func58 rfl ntmps58 rfl ?_
 intro u R
 refine Zb [0, 1] ?_
 refine Zq <| Zg <| Za Y <| Z0 <| Zx <| Zq <| Zg <| Zm Y <| Zl isAgg3 Y ?_
 refine Zv (p_gtr Y Y) <| Za Y <| Z0 <| Zx <| at_ret ?_
 refine nx_end1 rfl results58 Y (by exact ⟨rfl, rfl⟩)

theorem pin3 (r : RowM) (c : Nat) (hc : c ≤ 3) (lo : Int) (bi bc bl : Nat) : DoesR Tryz.prog 55 #[.agg #[.int .i64 r.t, .int .i64 r.k, .int .i64 r.v.a, .int .i64 r.v.b, .int .i64 r.v.c], .pointer (some ⟨bi, 0, none⟩), .pointer (some ⟨bc, 0, none⟩)] [[(bi, .cells #[.func (.func 58) #[] #[.pointer (some ⟨bl, 0, none⟩)]] 102 (0, 0))], [(bc, .cells #[.int .i64 (c : Int)] 3 (0, 0))], [(bl, .cells #[.int .i64 lo] 3 (0, 0))]] (.bool (gtV c lo r)) := by
 refine spec_enter func55 rfl ntmps55 rfl ?_
 intro u R
 refine Zb [0, 1, 2] ?_
 refine Zq <| Zg <| Ze (w_box Y (cs := #[_, _, _, _, _]) rfl) ?_
 rintro _ _ ⟨b1, rfl, rfl⟩
 refine Za Y <| Z0 <| Zx <| Zq <| at_draw (n := 6) (0 :: 0 :: 0 :: 6 :: 15 :: 31 :: []) 24 (by kernel_rfl) (by kernel_rfl) rfl ?_
 refine Zj 1 0 rfl isAgg102 Y ?_
 refine lin_r (D' := 3) 1 rfl rfl rfl Wh (p_load_agg (cs := #[_, _, _, _, _]) isAgg67 sizeOf67 Y Wn (by rfl)) ?_
 refine Zj 7 2 rfl isAgg3 Y ?_
 refine Yz 3 6 15 [2, 1, 0] [false, false, true] [(0, (_, _))] rfl Y rfl rfl rfl rfl (Zu [_, _] Y call56 Y rfl (rw_value r c hc)) ?_
 rintro _ _ ⟨rfl, rfl⟩
 refine ⟨Zk (keep_nil), ?_⟩
 refine Yz 4 15 31 [0] [false] [] rfl Y rfl rfl rfl rfl (Zu [_] Y call58 Y rfl (pred3 (valN r c) lo bl)) ?_
 rintro _ _ ⟨rfl, rfl⟩
 refine ⟨keep_nil, ?_⟩
 refine Zi 63 5 rfl (p_assign Y) <| lin_nil ?_
 refine Zx <| at_ret ?_
 refine nx_end1 rfl results55 Y (by exact ⟨rfl, rfl⟩)

theorem idx3 {M : List Chunk} {v : Value} {L : List RowM} (hv : RowsU M v L) (hn : L.length ≤ 1000000) (c : Nat) (hc : c ≤ 3) (lo : Int) (bi bc bl : Nat) : DoesR Tryz.prog 54 #[v, .func (.func 55) #[] #[.pointer (some ⟨bi, 0, none⟩), .pointer (some ⟨bc, 0, none⟩)]] [[(bi, .cells #[.func (.func 58) #[] #[.pointer (some ⟨bl, 0, none⟩)]] 102 (0, 0))], [(bc, .cells #[.int .i64 (c : Int)] 3 (0, 0))], [(bl, .cells #[.int .i64 lo] 3 (0, 0))], M] (.int .i64 (idxV (firstN (gtV c lo) L) L.length)) := by
 have hml : maxLen = 9223372036854775807 := rfl
 obtain ⟨p, cap, rfl, hl, hg⟩ := hv
 refine spec_enter func54 rfl ntmps54 rfl ?_
 intro u R
 refine Zb [0, 1] ?_
 refine Zq <| Zg <| Za Y <| Z0 <| Zx <| Zq <| Zq <| Zg <| Zm Y <| Zv (p_len_slice underlying38 Y) <| Zm Y <| Z0 <| Zx <| at_block <| Zb [8, 0, 1, 7] ?_
 refine at_loopB (e0 := [(8, _)]) (H0 := _) (n := _) (fun m e H => ∃ (i : Nat), m = L.length - i ∧ (i ≤ L.length ∧ ∀ (j : Nat) (y : RowM), j < i → L[j]? = some y → gtV c lo y = false) ∧ e = [(8, .int .i64 (i : Int))] ∧ H = []) (by exact ⟨0, rfl, ⟨Nat.zero_le _, by intro j y hj; omega⟩, rfl, rfl⟩) Wp ?_
 rintro _ _ _ ⟨i, rfl, ⟨hi, hno⟩, rfl, rfl⟩
 refine Zq <| Zg <| Zv (p_lss_nat Y Y) <| Z0 <| Zx <| Zq ?_
 refine at_if Y (fun hlt => ?_) (fun hlt => ?_)
 ·
  obtain ⟨x, hx⟩ : ∃ x, L[i]? = some x := ⟨_, List.getElem?_eq_getElem hlt⟩
  obtain ⟨g, off, cur, T, zz, rfl, hm9, hsz9, hex9⟩ := hg i x hx
  refine at_skip <| Zx <| Zq <| at_block <| Zq <| Zg <| Zm Y <| Za Y <| Z0 <| Zx <| Zq <| Zg <| Zm Y <| Zm Y <| Zm Y ?_
  (refine op_v (p_indexAddr_nat underlying38 sizeOf67 Y Y ?_) ?_; (focus (omega)))
  refine op_rm (cs := [(g, .cells cur T zz)]) (by simp [hm9]) (p_load_agg (cs := #[.int .i64 x.t, .int .i64 x.k, .int .i64 x.v.a, .int .i64 x.v.b, .int .i64 x.v.c]) isAgg67 sizeOf67 Y (by omega) hex9) rfl rfl ?_
  refine Xr [_] Y call55 Y rfl (pin3 x c hc lo bi bc bl) ?_
  refine Z0 <| Zx ?_
  refine at_if_bool Y (fun hp => ?_) (fun hp => ?_)
  ·
   refine Zq <| Zg <| Zm Y <| Za Y <| Z0 <| Zx <| at_ret <| nx_block_ret <| Zt <| Zt <| nx_block_ret <| Zt ?_
   refine nx_end1 rfl results54 Y (by exact ⟨by rw [first_at hx hp hno]; unfold idxV; rw [if_pos hlt], rfl⟩)
  refine at_skip <| nx_block_normal <| Zx <| Zg <| Ya (n := 1) Y Y <| Zm Y <| Z0 <| Zn [8, 0, 1, 7] ?_
  refine nx_againB (e' := [(8, _)]) (m := _) (H' := _) (by exact ⟨i + 1, rfl, ⟨by omega, fun j y hj hy => by rcases Nat.lt_or_ge j i with h9 | h9; exact hno j y h9 hy; obtain rfl : j = i := (by omega); rw [hx] at hy; injection hy with hy; rw [← hy]; exact hp⟩, rfl, rfl⟩)
 have hfn : firstN (gtV c lo) L = L.length := first_none (fun j y hy => hno j y (by have := (List.getElem?_eq_some_iff.1 hy).1; omega) hy)
 refine at_exit <| Zt <| Zt <| nx_block_exit <| Zx <| Zq <| Zg <| Za Y <| Z0 <| Zx <| at_ret ?_
 refine nx_end1 rfl results54 Y (by exact ⟨by rw [hfn]; unfold idxV; rw [if_neg (by omega)], rfl⟩)

theorem pone3 {M : List Chunk} {vr ve : Value} {L : List RowM} (hv : RowsU M vr L) (hn : L.length ≤ 1000000) (c : Nat) (hc : c ≤ 3) (lo : Int) (bo bc bl : Nat) : DoesR Tryz.prog 53 #[.func (.func 58) #[] #[.pointer (some ⟨bl, 0, none⟩)], .pointer (some ⟨bo, 0, none⟩), .pointer (some ⟨bc, 0, none⟩)] [[(bo, .cells #[vr, ve] 130 (0, 0))], [(bc, .cells #[.int .i64 (c : Int)] 3 (0, 0))], [(bl, .cells #[.int .i64 lo] 3 (0, 0))], M] (.int .i64 ((firstN (gtV c lo) L : Nat) : Int)) := by
 have hml : maxLen = 9223372036854775807 := rfl
 obtain ⟨p, cap, rfl, hl, hg⟩ := id hv
 have hfl := first_le (gtV c lo) L
 refine spec_enter func53 rfl ntmps53 rfl ?_
 intro u R
 refine Zb [0, 1, 2] ?_
 refine Zq <| Zg <| Ze (w_box Y (cs := #[_]) rfl) ?_
 rintro _ _ ⟨bi, rfl, rfl⟩
 refine Za Y <| Z0 <| Zx <| Zq <| Zg <| Zh 0 underlying130 rfl rfl sizeOf38 Y <| Zl isAgg38 Y ?_
 refine Zv (p_makeFunc (vs := []) (us := [_, _]) Y Y) ?_
 refine Xr [_, _] Y call54 Y rfl (idx3 hv hn c hc lo bi bc bl) ?_
 refine Za Y <| Z0 <| Zx <| Zq <| Zq <| Zg <| Zm Y <| Zv (p_lss Y Y) <| Z0 <| Zx ?_
 refine at_if Y (fun hneg => ?_) (fun hneg => ?_)
 ·
  have hge : firstN (gtV c lo) L = L.length := by
    rcases Nat.lt_or_ge (firstN (gtV c lo) L) L.length with h9 | h9
    · unfold idxV at hneg; rw [if_pos h9] at hneg; omega
    · omega
  refine Zq <| Zg <| Zh 0 underlying130 rfl rfl sizeOf38 Y <| Zl isAgg38 Y ?_
  refine Zv (p_len_slice underlying38 Y) <| Za Y <| Z0 <| Zn [4] ?_
  refine Zx <| at_ret <| Zt ?_
  refine nx_end1 rfl results53 Y (by exact ⟨by rw [hge], rfl⟩)
 have hlt : firstN (gtV c lo) L < L.length := by
   rcases Nat.lt_or_ge (firstN (gtV c lo) L) L.length with h9 | h9
   · exact h9
   · unfold idxV at hneg; rw [if_neg (by omega)] at hneg; omega
 refine at_skip <| Zx <| Zq <| Zg <| Zm Y <| Za Y <| Z0 <| Zx <| at_ret ?_
 refine nx_end1 rfl results53 Y (by exact ⟨by unfold idxV; rw [if_pos hlt], rfl⟩)

theorem exists_spec (t c : Int) : DoesR Tryz.prog 51 #[.int .i64 t, .int .i64 c] [] (.bool (decide ((0 ≤ t ∧ t < 4) ∧ 0 ≤ c ∧ c < 4))) := by
 refine spec_enter func51 rfl ntmps51 rfl ?_
 intro u R
 refine Zb [0, 1] ?_
 refine Zq <| Zg <| Za Y <| Z0 <| Zx <| Zq <| Zg <| Zm Y <| Zv (p_geq Y Y) <| Zm Y ?_
 refine ops_split (t := 7) Y rfl (fun h1 => ?_) (fun h1 => ?_)
 ·
  refine Zf Y Y <| Yg (p_lss Y Y) <| Zv (p_pick_t Y Y) <| Zm Y ?_
  refine ops_split (t := 11) Y rfl (fun h2 => ?_) (fun h2 => ?_)
  ·
   refine Zf Y Y <| Yg (p_geq Y Y) <| Zv (p_pick_t Y Y) <| Zm Y ?_
   refine ops_split (t := 15) Y rfl (fun h3 => ?_) (fun h3 => ?_)
   ·
    refine Zf Y Y <| Yg (p_lss Y Y) <| Zv (p_pick_t Y Y) <| Za Y <| Z0 <| Zn [4] ?_
    refine Zx <| at_ret ?_
    refine nx_end1 rfl results51 Y (by exact ⟨by exact congrArg Value.bool (decide_eq_decide.2 (by omega)), rfl⟩)
   refine op_skip Y rfl <| op_skip Y rfl <| Zv (p_pick_f Y Y) <| Za Y <| Z0 <| Zn [4] ?_
   refine Zx <| at_ret ?_
   refine nx_end1 rfl results51 Y (by exact ⟨by exact congrArg Value.bool (decide_eq_false (by omega)).symm, rfl⟩)
  refine op_skip Y rfl <| op_skip Y rfl <| Zv (p_pick_f Y Y) <| Zm Y <| op_skip Y rfl <| op_skip Y rfl <| Zv (p_pick_f Y Y) <| Za Y <| Z0 <| Zn [4] ?_
  refine Zx <| at_ret ?_
  refine nx_end1 rfl results51 Y (by exact ⟨by exact congrArg Value.bool (decide_eq_false (by omega)).symm, rfl⟩)
 refine op_skip Y rfl <| op_skip Y rfl <| Zv (p_pick_f Y Y) <| Zm Y <| op_skip Y rfl <| op_skip Y rfl <| Zv (p_pick_f Y Y) <| Zm Y <| op_skip Y rfl <| op_skip Y rfl <| Zv (p_pick_f Y Y) <| Za Y <| Z0 <| Zn [4] ?_
 refine Zx <| at_ret ?_
 refine nx_end1 rfl results51 Y (by exact ⟨by exact congrArg Value.bool (decide_eq_false (by omega)).symm, rfl⟩)

structure RP where
  tb : Int
  cl : Int
  lo : Int
  hi : Int
  ct : Int
  fi : Int
  rows : List RowM
  paths : List (List Bs)
  roots : List Bs
deriving DecidableEq
def fromT (L : List RowM) (c : Nat) (lo : Int) : Nat := firstN (geV c lo) L - 1
def toT (L : List RowM) (c : Nat) (hi : Int) : Nat := min (firstN (gtV c hi) L + 1) L.length
def pathsT (L : List RowM) (f k : Nat) : List (List Bs) := (List.range k).map fun j => proofT (encL L) (f + j)
def proveT (rs : List RowM) (t c : Nat) (lo hi : Int) : RP :=
  ⟨t, c, lo, hi, (ordL rs (t : Int) c).length, (fromT (ordL rs (t : Int) c) c lo : Nat), ((ordL rs (t : Int) c).drop (fromT (ordL rs (t : Int) c) c lo)).take (toT (ordL rs (t : Int) c) c hi - fromT (ordL rs (t : Int) c) c lo),
    pathsT (ordL rs (t : Int) c) (fromT (ordL rs (t : Int) c) c lo) (toT (ordL rs (t : Int) c) c hi - fromT (ordL rs (t : Int) c) c lo), sumL rs⟩
def PathsS (M : List Chunk) (pvs : List Value) (ps : List (List Bs)) : Prop := pvs.length = ps.length ∧ ∀ (i : Nat) (v : Value) (l : List Bs), pvs[i]? = some v → ps[i]? = some l → StrsU M v l
theorem paths_nil (M : List Chunk) : PathsS M [] [] := ⟨rfl, by intro i v l h; simp at h⟩
theorem PathsS.snoc {M M' : List Chunk} {pvs : List Value} {ps : List (List Bs)} (h : PathsS M pvs ps) {v : Value} {l : List Bs} (hv : StrsU M' v l) (hm : ∀ c ∈ M, c ∈ M') : PathsS M' (pvs ++ [v]) (ps ++ [l]) := by
  obtain ⟨h1, h2⟩ := h
  refine ⟨by rw [List.length_append, List.length_append, h1]; rfl, ?_⟩
  intro i w k hi hk
  rcases Nat.lt_or_ge i pvs.length with h9 | h9
  · rw [List.getElem?_append_left h9] at hi
    rw [List.getElem?_append_left (by omega)] at hk
    exact (h2 i w k hi hk).mono hm
  · rw [List.getElem?_append_right h9] at hi
    rw [List.getElem?_append_right (by omega)] at hk
    rw [h1] at hi
    cases h : i - ps.length with
    | zero => rw [h] at hi hk; simp at hi hk; rw [← hi, ← hk]; exact hv
    | succ n => rw [h] at hi; simp at hi
theorem pathsT_snoc (L : List RowM) (f k : Nat) : pathsT L f (k + 1) = pathsT L f k ++ [proofT (encL L) (f + k)] := by unfold pathsT; rw [List.range_succ, List.map_append]; rfl
theorem pathsT_len (L : List RowM) (f k : Nat) : (pathsT L f k).length = k := by unfold pathsT; rw [List.length_map, List.length_range]
theorem path_le {e : TypeId} {v : Value} {n : Nat} {xs : List Value} {s : List Chunk} (h : RowS 1 e v n xs s) : n ≤ maxLen := by
  obtain ⟨_, ⟨_, h0, _⟩ | ⟨_, _, _, _, _, _, h1, h2, _⟩⟩ := h
  · omega
  · omega
theorem sumL_len (rs : List RowM) : (sumL rs).length = 16 := by unfold sumL; rw [List.length_map]; rfl

set_option maxHeartbeats 4000000 in
theorem prove_main (v : Value) (p : Int) (rs : List RowM) (s : List Chunk) (hv : StIs v p rs s) (hs : SortedR rs) (hn : rs.length ≤ 2000) (hok : ∀ r ∈ rs, r.ok) (t c : Nat) (ht : t ≤ 3) (hc : c ≤ 3) (lo hi : Int) (hlh : lo ≤ hi) (Tg : TypeId) (zg : Nat × Nat) :
    Does Tryz.prog 26 #[v, .int .i64 (t : Int), .int .i64 (c : Int), .int .i64 lo, .int .i64 hi] [[(1, .cells (kTab.map u32v).toArray Tg zg)], s] (fun r H' => ∃ vr vp vt sr2 sp pvs mp so, r = .tuple #[.agg #[.int .i64 (t : Int), .int .i64 (c : Int), .int .i64 lo, .int .i64 hi, .int .i64 (((ordL rs (t : Int) c).length : Nat) : Int), .int .i64 (((fromT (ordL rs (t : Int) c) c lo) : Nat) : Int), vr, vp, vt], .int .i64 0] ∧ RowS 5 67 vr (((ordL rs (t : Int) c).drop (fromT (ordL rs (t : Int) c) c lo)).take ((toT (ordL rs (t : Int) c) c hi) - (fromT (ordL rs (t : Int) c) c lo))).length (rowCells (((ordL rs (t : Int) c).drop (fromT (ordL rs (t : Int) c) c lo)).take ((toT (ordL rs (t : Int) c) c hi) - (fromT (ordL rs (t : Int) c) c lo)))) sr2 ∧ RowS 1 61 vp ((toT (ordL rs (t : Int) c) c hi) - (fromT (ordL rs (t : Int) c) c lo)) pvs sp ∧ PathsS mp pvs (pathsT (ordL rs (t : Int) c) (fromT (ordL rs (t : Int) c) c lo) ((toT (ordL rs (t : Int) c) c hi) - (fromT (ordL rs (t : Int) c) c lo))) ∧ RowS 1 9 vt 16 ((sumL rs).map strV) so ∧ H' = [sr2, sp, mp, so, [(1, .cells (kTab.map u32v).toArray Tg zg)], s]) := by
 have hml : maxLen = 9223372036854775807 := rfl
 obtain ⟨sp9, mb9, es9, ck9, lm9, rfl, hst9⟩ := id hv
 have hll := ordL_len hs (t : Int) c
 have hf1 := first_le (geV c lo) (ordL rs (t : Int) c)
 have hf2 := first_le (gtV c hi) (ordL rs (t : Int) c)
 have hfr : (fromT (ordL rs (t : Int) c) c lo) = firstN (geV c lo) (ordL rs (t : Int) c) - 1 := rfl
 have hto : (toT (ordL rs (t : Int) c) c hi) = min (firstN (gtV c hi) (ordL rs (t : Int) c) + 1) (ordL rs (t : Int) c).length := rfl
 refine spec_enter func26 rfl ntmps26 rfl ?_
 intro u R
 refine Zb [0, 1, 2, 3, 4] ?_
 refine Zq <| Zg <| Ze (w_box Y (cs := #[_]) rfl) ?_
 rintro _ _ ⟨bc, rfl, rfl⟩
 refine Ze (w_box Y (cs := #[_]) rfl) ?_
 rintro _ _ ⟨bl, rfl, rfl⟩
 refine Ze (w_box Y (cs := #[_]) rfl) ?_
 rintro _ _ ⟨bh, rfl, rfl⟩
 refine Ze (w_alloc zeroValue79 (cs := #[_, _, _, _, _, _, _, _, _]) rfl) ?_
 rintro _ _ ⟨qb, rfl, rfl⟩
 refine Za Y <| Z0 <| Zx <| Zq <| at_block <| Zq <| Zg <| Zm Y <| Zv (p_eql_ptr_nil underlying31 Y Y) <| Za Y <| Z0 <| Zx ?_
 refine at_if_bool Y (fun h1 => ?_) (fun h1 => ?_)
 ·
  cases h1
 refine Zq <| Zg <| Zm Y <| Zl isAgg3 Y ?_
 refine Xr [_, _] Y call51 Y rfl (exists_spec (t : Int) (c : Int)) ?_
 rw [decide_eq_true (show ((0 ≤ (t : Int) ∧ (t : Int) < 4) ∧ 0 ≤ (c : Int) ∧ (c : Int) < 4) by omega)]
 refine Zv (p_not Y) <| Zm Y ?_
 refine ops_split_bool (t := 29) Y rfl (fun h2 => ?_) (fun h2 => ?_)
 ·
  cases h2
 refine Yl isAgg3 Y ?_
 refine Yl isAgg3 Y ?_
 refine Yg (p_gtr Y Y) <| Zv (p_pick_f Y Y) <| Za Y <| Z0 <| Zn [0, 1, 7, 8, 9, 10, 24] ?_
 refine Zx ?_
 refine at_if Y (fun h3 => ?_) (fun h3 => ?_)
 ·
  exfalso; omega
 refine at_skip <| nx_block_normal <| Zx <| Zq <| Zg <| Zm Y <| Zm Y <| Zl isAgg3 Y ?_
 refine Zc [_, _, _] Y call52 Y rfl (order_spec _ p rs s hv hs hn hok (t : Int) c hc) ?_
 rintro _ _ ⟨_, ⟨vr, ve, sr, se, rfl, hO, rfl⟩, rfl⟩
 obtain ⟨qr, cr, rfl⟩ := hO.1.form
 obtain ⟨qe, ce, rfl⟩ := hO.2.form
 have hRU := rowsU_row hO.1 (by omega)
 have hSU : StrsU se (.slice qe (ordL rs (t : Int) c).length ce) (encL (ordL rs (t : Int) c)) := strsU_row (rowS_eq hO.2 (encL_len _).symm rfl) (by rw [encL_len]; omega)
 obtain ⟨p9, cap9, e9, hol, hg⟩ := id hRU
 injection e9 with e91 e92 e93
 subst e91 e93
 refine Ze (w_alloc zeroValue130 (cs := #[_, _]) rfl) ?_
 rintro _ _ ⟨ob, rfl, rfl⟩
 refine Xe (w_store_agg sizeOf130 Y Y (by simp [Value.oneCell', Value.cells]) Wu (by exact (rfl : _ = (#[.slice qr (ordL rs (t : Int) c).length cr, .slice qe (ordL rs (t : Int) c).length ce] : Array Value))) (by first | rfl | (simp; done)) Wb (by exact free_zero _)) ?_
 refine Z0 <| Zx <| Zq <| Zg <| Zv (p_makeFunc (vs := []) (us := [_, _]) Y Y) ?_
 refine Za Y <| Z0 <| Zx <| Zq <| Zg <| Zm Y <| Zv (p_makeFunc (vs := []) (us := [_]) Y Y) ?_
 refine Xr [_] Y call53 Y rfl (pone2 hRU (by omega) c hc lo ob bc bl) ?_
 (refine op_v (p_sub Y Y (IntWalk.i64_in _ ?_)) ?_; (focus (omega)))
 refine Zv (p_max_pred Y Y) <| Za Y <| Z0 <| Zn [0, 1, 7, 8, 9, 10, 12, 13, 14] ?_
 refine Zx <| Zq <| at_draw (n := 9) (0 :: 0 :: 3 :: 7 :: 0 :: 16 :: 48 :: 127 :: 255 :: []) 4 (by kernel_rfl) (by kernel_rfl) rfl ?_
 refine Zi 1 0 rfl (p_move Y) <| Zi 3 1 rfl (p_makeFunc (vs := []) (us := [_]) Y Y) ?_
 refine Zi 19 4 rfl (p_fieldAddr0 (off := 0) underlying130 rfl rfl sizeOf38 Y) <| Zj 51 5 rfl isAgg38 Y ?_
 refine Zi 115 6 rfl (p_len_slice underlying38 Y) <| Zz (l := [2]) ?_
 refine Zy 3 119 [5] [true] [(5, (_, _))] rfl Y rfl rfl rfl rfl (Zu [_] Y call53 Y rfl (pone3 hRU (by omega) c hc hi ob bc bh)) ?hk_1 (fun _ _ h => h.elim) ?hl_1
 case hk_1 =>
  rintro _ _ ⟨rfl, rfl⟩
  refine ⟨Zk (keep_nil), ?_⟩
  (refine lin_v (D' := 127) 3 (p_add_nat (n := 1) Y Y ?_) ?_; (focus (omega)))
  refine Zi 255 7 rfl (p_min_nat Y Y) <| Zi 511 8 rfl (p_assign Y) <| lin_nil ?_
  refine Zx <| Zq <| at_draw (n := 13) (0 :: 0 :: 0 :: 0 :: 0 :: 16 :: 48 :: 0 :: 0 :: 256 :: 1023 :: 0 :: 4095 :: []) 6656 (by kernel_rfl) (by kernel_rfl) rfl ?_
  refine Zi 1 0 rfl (p_move Y) <| Zj 3 1 rfl isAgg3 Y ?_
  refine Zj 7 2 rfl isAgg3 Y ?_
  refine Zj 15 3 rfl isAgg3 Y ?_
  refine Zi 31 4 rfl (p_fieldAddr0 (off := 0) underlying130 rfl rfl sizeOf38 Y) <| Zj 63 5 rfl isAgg38 Y ?_
  refine Zi 127 6 rfl (p_len_slice underlying38 Y) <| Zi 255 7 rfl (p_move Y) <| Zi 511 8 rfl (p_move Y) <| Zz (l := [9, 11]) ?_
  refine Zy 256 1023 [5, 3, 2, 1] [true, true, true, true] [(5, (_, _)), (3, (_, _)), (2, (_, _)), (1, (_, _))] rfl Y rfl rfl rfl rfl (Zw [_] Y call59 Y rfl (summ_spec _ p rs s hv hs hn hok Tg zg)) ?hk_2 no_pan ?hl_2
  case hk_2 =>
   rintro _ _ ⟨_, ⟨so, hso, rfl⟩, rfl⟩
   refine ⟨Zk (Zk (Zk (Zk (keep_nil)))), ?_⟩
   obtain ⟨qt, ct, rfl⟩ := hso.form
   refine Zi 2047 10 rfl (p_build (vs := [(0, .int .i64 (t : Int)), (1, .int .i64 (c : Int)), (2, .int .i64 lo), (3, .int .i64 hi), (4, .int .i64 (((ordL rs (t : Int) c).length : Nat) : Int)), (5, .int .i64 (((fromT (ordL rs (t : Int) c) c lo) : Nat) : Int)), (8, .slice qt 16 ct)]) (cs := #[.int .i64 (t : Int), .int .i64 (c : Int), .int .i64 lo, .int .i64 hi, .int .i64 (((ordL rs (t : Int) c).length : Nat) : Int), .int .i64 (((fromT (ordL rs (t : Int) c) c lo) : Nat) : Int), .slice none 0 0, .slice none 0 0, .slice qt 16 ct]) Y (run_build_struct (pl := #[(0, 1), (1, 1), (2, 1), (3, 1), (4, 1), (5, 1), (6, 1), (7, 1), (8, 1)]) zeroValue79 underlying79 (fun _ => by kernel_rfl) (by kernel_rfl))) ?_
   refine Yz 11 0 4095 [5, 3, 2, 1] [true, true, true, true] [(5, (_, _)), (3, (_, _)), (2, (_, _)), (1, (_, _))] rfl Y rfl rfl rfl rfl (w_alloc zeroValue79 (cs := #[_, _, _, _, _, _, _, _, _]) rfl) ?_
   rintro _ _ ⟨pb, rfl, rfl⟩
   refine ⟨Zk (Zk (Zk (Zk (keep_nil)))), ?_⟩
   refine Yz 12 4095 8191 [5, 3, 2, 1] [false, false, false, false] [] rfl Y rfl rfl rfl rfl (w_store_agg sizeOf79 Y Y (by simp [Value.oneCell', Value.cells]) Wu (by exact (rfl : _ = (#[.int .i64 (t : Int), .int .i64 (c : Int), .int .i64 lo, .int .i64 hi, .int .i64 (((ordL rs (t : Int) c).length : Nat) : Int), .int .i64 (((fromT (ordL rs (t : Int) c) c lo) : Nat) : Int), .slice none 0 0, .slice none 0 0, .slice qt 16 ct] : Array Value))) (by first | rfl | (simp; done)) Wb (by exact free_zero _)) ?_
   rintro _ _ ⟨rfl, rfl⟩
   refine ⟨keep_nil, ?_⟩
   refine lin_nil ?_
   refine Zn [10, 12, 14, 15, 16] ?_
   refine Zx <| Zq <| Zq <| Zg <| Zm Y <| Za Y <| Z0 <| Zx <| at_block <| at_nil ?_
   refine at_nil ?_
   refine at_nil ?_
   refine Zb [17, 10, 12, 15, 16] ?_
   refine at_loopB (e0 := [(17, _)]) (H0 := _) (n := _) (fun m e H => ∃ (k : Nat) (vr2 : Value) (sr2 : List Chunk) (vp : Value) (sp : List Chunk) (pvs : List Value) (mp : List Chunk), m = (toT (ordL rs (t : Int) c) c hi) - (fromT (ordL rs (t : Int) c) c lo) - k ∧ (k ≤ (toT (ordL rs (t : Int) c) c hi) - (fromT (ordL rs (t : Int) c) c lo) ∧ RowS 5 67 vr2 k (rowCells (((ordL rs (t : Int) c).drop (fromT (ordL rs (t : Int) c) c lo)).take k)) sr2 ∧ RowS 1 61 vp k pvs sp ∧ PathsS mp pvs (pathsT (ordL rs (t : Int) c) (fromT (ordL rs (t : Int) c) c lo) k)) ∧ e = [(17, .int .i64 (((fromT (ordL rs (t : Int) c) c lo) + k : Nat) : Int))] ∧ H = [[(pb, .cells #[.int .i64 (t : Int), .int .i64 (c : Int), .int .i64 lo, .int .i64 hi, .int .i64 (((ordL rs (t : Int) c).length : Nat) : Int), .int .i64 (((fromT (ordL rs (t : Int) c) c lo) : Nat) : Int), vr2, vp, .slice qt 16 ct] 79 (0, 0))], sr2, sp, mp]) (by exact ⟨0, .slice none 0 0, [], .slice none 0 0, [], [], [], rfl, ⟨Nat.zero_le _, by rw [List.take_zero]; exact rowS_nil 5 _, rowS_nil 1 _, paths_nil _⟩, rfl, rfl⟩) Wp ?_
   rintro _ _ _ ⟨k, vr2, sr2, vp, sp, pvs, mp, rfl, ⟨hk, hr2, hp2, hP⟩, rfl, rfl⟩
   obtain ⟨q2, c2, rfl⟩ := hr2.form
   obtain ⟨q3, c3, rfl⟩ := hp2.form
   refine Zq <| Zq <| Zg <| Zm Y <| Zm Y <| Zv (p_lss_nat Y Y) <| Z0 <| Zx ?_
   refine at_if Y (fun hlt => ?_) (fun hlt => ?_)
   ·
    obtain ⟨x, hx⟩ : ∃ x, (ordL rs (t : Int) c)[(fromT (ordL rs (t : Int) c) c lo) + k]? = some x := ⟨_, List.getElem?_eq_getElem (by omega)⟩
    obtain ⟨g, off, cur, T, zz, rfl, hm9, hsz9, hex9⟩ := hg _ x hx
    have hx2 : ((ordL rs (t : Int) c).drop (fromT (ordL rs (t : Int) c) c lo))[k]? = some x := by rw [List.getElem?_drop]; exact hx
    refine at_skip <| Zx <| Zq <| at_block <| Zq <| Zg <| Zh 1 underlying130 rfl rfl sizeOf61 Y <| Zl isAgg61 Y ?_
    refine Zm Y <| Zc [_, _] Y call60 Y rfl (proof_spec hSU (by rw [encL_len]; omega) (fun s h => by have := encL_ok (fun r hr => hok r (range_mem hr)) s h; omega) ((fromT (ordL rs (t : Int) c) c lo) + k) (by rw [encL_len]; omega) Tg zg) ?_
    rintro _ _ ⟨_, ⟨vpath, spath, rfl, hpath, rfl⟩, rfl⟩
    have hplen : (proofT (encL (ordL rs (t : Int) c)) ((fromT (ordL rs (t : Int) c) c lo) + k)).length ≤ maxLen := path_le hpath
    have hPU := strsU_row hpath hplen
    have hP2 := pathsT_snoc (ordL rs (t : Int) c) (fromT (ordL rs (t : Int) c) c lo) k ▸ hP.snoc (hPU.mono (fun c h => List.mem_append_left mp h)) (fun c h => List.mem_append_right spath h)
    obtain ⟨qx, cx, rfl⟩ := hpath.form
    refine Zm Y <| Zd Y rfl <| Zd Y rfl <| Za Y <| Za Y <| Z0 <| Zx <| at_join (s1 := spath) (s2 := mp) Wo Wo ?_
    refine at_draw (n := 18) (0 :: 1 :: 0 :: 4 :: 0 :: 28 :: 60 :: 124 :: 255 :: 0 :: 512 :: 0 :: 2048 :: 8191 :: 2047 :: 32767 :: 65535 :: 131071 :: []) 176512 (by kernel_rfl) (by kernel_rfl) rfl ?_
    refine Zi 1 0 rfl (p_fieldAddr0 (off := 6) underlying79 rfl rfl sizeOf38 Y) <| Zj 3 1 rfl isAgg38 Y ?_
    refine Zi 7 2 rfl (p_fieldAddr0 (off := 0) underlying130 rfl rfl sizeOf38 Y) <| Zj 15 3 rfl isAgg38 Y ?_
    refine Zi 31 4 rfl (p_move Y) ?_
    (refine lin_v (D' := 63) 5 (p_indexAddr_nat underlying38 sizeOf67 Y Y ?_) ?_; (focus (first | omega | decide | (simp; done))))
    refine lin_rm (b := g) (x := .cells cur T zz) (D' := 127) 6 rfl rfl rfl (by simp [hm9]) (p_load_agg (cs := #[.int .i64 x.t, .int .i64 x.k, .int .i64 x.v.a, .int .i64 x.v.b, .int .i64 x.v.c]) isAgg67 sizeOf67 Y (by omega) hex9) ?_
    refine Zi 639 9 rfl (p_fieldAddr0 (off := 7) underlying79 rfl rfl sizeOf77 Y) <| Zj 1663 10 rfl isAgg77 Y ?_
    refine Zi 3711 11 rfl (p_move Y) <| Zz (l := [7, 12]) ?_
    refine Zy 124 3839 [10, 6, 3, 1] [true, false, false, true] [(10, (_, _)), (1, (_, _))] rfl Y rfl rfl rfl rfl (w_buildSlice (vs := [_]) (cs := [_, _, _, _, _]) underlying38 sizeOf67 zeroValue67 Y rfl rfl rfl rfl rfl) ?hk_6 (fun _ _ h => h.elim) ?hl_6
    case hk_6 =>
     rintro _ _ ⟨gb1, rfl, rfl⟩
     refine ⟨Zk (Zk (keep_nil)), ?_⟩
     refine Zz (l := [8, 12]) ?_
     refine Zy 255 4095 [10, 1] [true, false] [(10, (_, _))] rfl Y rfl rfl rfl rfl (w_append_subS (by_ := 40) (sz := 5) underlying38 (rfl : Tryz.prog.info? 67 = some Tryz.t67) rfl rfl rfl rfl Y (hr2) Y (subS_new 5 gb1 1 1 67 (0, 0) [.int .i64 x.t, .int .i64 x.k, .int .i64 x.v.a, .int .i64 x.v.b, .int .i64 x.v.c] rfl) Wo Wo (by simp [Value.oneCell']) (by omega) (by omega)) ?hk_7 (fun _ _ h => h.elim) ?hl_7
     case hk_7 =>
      rintro _ _ ⟨sa9, hra9, rfl⟩
      refine ⟨Zk (keep_nil), ?_⟩
      obtain ⟨ga9, ca9, rfl⟩ := hra9.form
      refine Zi 20479 14 rfl (p_fieldAddr0 (off := 6) underlying79 rfl rfl sizeOf38 Y) <| Zz (l := [12]) ?_
      refine Zy 2048 24575 [10] [true] [(10, (_, _))] rfl Y rfl rfl rfl rfl (w_buildSlice (vs := [_]) (cs := [_]) underlying77 sizeOf61 zeroValue61 Y rfl rfl rfl rfl rfl) ?hk_8 (fun _ _ h => h.elim) ?hl_8
      case hk_8 =>
       rintro _ _ ⟨gb2, rfl, rfl⟩
       refine ⟨Zk (keep_nil), ?_⟩
       refine Yz 13 8191 32767 [10] [false] [] rfl Y rfl rfl rfl rfl (w_appendS (by_ := 24) (sz := 1) (news := [_]) underlying77 (rfl : Tryz.prog.info? 61 = some Tryz.t61) rfl rfl rfl rfl Y hp2 Y Wo Wh (by rfl) rfl (by simp [Value.oneCell', Value.cells]) (by decide) (by omega) (by omega)) ?_
       rintro _ _ ⟨sw7, hrw7, rfl⟩
       refine ⟨keep_nil, ?_⟩
       obtain ⟨gw7, cw7, rfl⟩ := hrw7.form
       refine Yz 15 32767 65535 [] [] [] rfl Y rfl rfl rfl rfl (Zs sizeOf38 Y Y rfl (hc := by exact (rfl : _ = (#[.int .i64 (t : Int), .int .i64 (c : Int), .int .i64 lo, .int .i64 hi, .int .i64 (((ordL rs (t : Int) c).length : Nat) : Int), .int .i64 (((fromT (ordL rs (t : Int) c) c lo) : Nat) : Int), _, _, .slice qt 16 ct] : Array Value))) (hi := by first | omega | decide | (simp; done))) ?_
       rintro _ _ ⟨rfl, rfl⟩
       refine ⟨keep_nil, ?_⟩
       refine Zi 131071 16 rfl (p_fieldAddr0 (off := 7) underlying79 rfl rfl sizeOf77 Y) <| Zz (l := [17]) ?_
       refine Zy 131071 262143 [] [] [] rfl Y rfl rfl rfl rfl (Zs sizeOf77 Y Y rfl (hc := by exact (rfl : _ = (#[.int .i64 (t : Int), .int .i64 (c : Int), .int .i64 lo, .int .i64 hi, .int .i64 (((ordL rs (t : Int) c).length : Nat) : Int), .int .i64 (((fromT (ordL rs (t : Int) c) c lo) : Nat) : Int), _, _, .slice qt 16 ct] : Array Value))) (hi := by first | omega | decide | (simp; done))) ?hk_11 (fun _ _ h => h.elim) ?hl_11
       case hk_11 =>
        rintro _ _ ⟨rfl, rfl⟩
        refine ⟨keep_nil, ?_⟩
        refine lin_nil ?_
        refine Zn [10, 12, 15, 16, 17] ?_
        refine nx_block_normal <| Zx <| Zg <| Zm Y <| Ya (n := 1) Y Y <| Za Y <| Z0 <| Zn [17, 10, 12, 15, 16] ?_
        refine nx_againB (e' := [(17, _)]) (m := _) (H' := _) (by exact ⟨k + 1, _, _, _, _, pvs ++ [_], spath ++ mp, rfl, ⟨by omega, rowS_eq hra9 rfl (by rw [take_snoc hx2, rowCells_app]; rfl), rowS_eq hrw7 rfl rfl, hP2⟩, rfl, rfl⟩)
       exact each_nil
      exact each_nil
     refine Zy 2048 7935 [10, 1] [true, true] [(10, (_, _)), (1, (_, _))] rfl Y rfl rfl rfl rfl (w_buildSlice (vs := [_]) (cs := [_]) underlying77 sizeOf61 zeroValue61 Y rfl rfl rfl rfl rfl) ?hk_13 (fun _ _ h => h.elim) ?hl_13
     case hk_13 =>
      rintro _ _ ⟨gb2, rfl, rfl⟩
      refine ⟨Zk (Zk (keep_nil)), ?_⟩
      refine Yz 8 255 8191 [10, 1] [true, false] [(10, (_, _))] rfl Y rfl rfl rfl rfl (w_append_subS (by_ := 40) (sz := 5) underlying38 (rfl : Tryz.prog.info? 67 = some Tryz.t67) rfl rfl rfl rfl Y (hr2) Y (subS_new 5 gb1 1 1 67 (0, 0) [.int .i64 x.t, .int .i64 x.k, .int .i64 x.v.a, .int .i64 x.v.b, .int .i64 x.v.c] rfl) Wo Wo (by simp [Value.oneCell']) (by omega) (by omega)) ?_
      rintro _ _ ⟨sa9, hra9, rfl⟩
      refine ⟨Zk (keep_nil), ?_⟩
      obtain ⟨ga9, ca9, rfl⟩ := hra9.form
      refine Zi 24575 14 rfl (p_fieldAddr0 (off := 6) underlying79 rfl rfl sizeOf38 Y) <| Zz (l := [13]) ?_
      refine Zy 8191 32767 [10] [false] [] rfl Y rfl rfl rfl rfl (w_appendS (by_ := 24) (sz := 1) (news := [_]) underlying77 (rfl : Tryz.prog.info? 61 = some Tryz.t61) rfl rfl rfl rfl Y hp2 Y Wo Wh (by rfl) rfl (by simp [Value.oneCell', Value.cells]) (by decide) (by omega) (by omega)) ?hk_15 (fun _ _ h => h.elim) ?hl_15
      case hk_15 =>
       rintro _ _ ⟨sw7, hrw7, rfl⟩
       refine ⟨keep_nil, ?_⟩
       obtain ⟨gw7, cw7, rfl⟩ := hrw7.form
       refine Yz 15 32767 65535 [] [] [] rfl Y rfl rfl rfl rfl (Zs sizeOf38 Y Y rfl (hc := by exact (rfl : _ = (#[.int .i64 (t : Int), .int .i64 (c : Int), .int .i64 lo, .int .i64 hi, .int .i64 (((ordL rs (t : Int) c).length : Nat) : Int), .int .i64 (((fromT (ordL rs (t : Int) c) c lo) : Nat) : Int), _, _, .slice qt 16 ct] : Array Value))) (hi := by first | omega | decide | (simp; done))) ?_
       rintro _ _ ⟨rfl, rfl⟩
       refine ⟨keep_nil, ?_⟩
       refine Zi 131071 16 rfl (p_fieldAddr0 (off := 7) underlying79 rfl rfl sizeOf77 Y) <| Zz (l := [17]) ?_
       refine Zy 131071 262143 [] [] [] rfl Y rfl rfl rfl rfl (Zs sizeOf77 Y Y rfl (hc := by exact (rfl : _ = (#[.int .i64 (t : Int), .int .i64 (c : Int), .int .i64 lo, .int .i64 hi, .int .i64 (((ordL rs (t : Int) c).length : Nat) : Int), .int .i64 (((fromT (ordL rs (t : Int) c) c lo) : Nat) : Int), _, _, .slice qt 16 ct] : Array Value))) (hi := by first | omega | decide | (simp; done))) ?hk_17 (fun _ _ h => h.elim) ?hl_17
       case hk_17 =>
        rintro _ _ ⟨rfl, rfl⟩
        refine ⟨keep_nil, ?_⟩
        refine lin_nil ?_
        refine Zn [10, 12, 15, 16, 17] ?_
        refine nx_block_normal <| Zx <| Zg <| Zm Y <| Ya (n := 1) Y Y <| Za Y <| Z0 <| Zn [17, 10, 12, 15, 16] ?_
        refine nx_againB (e' := [(17, _)]) (m := _) (H' := _) (by exact ⟨k + 1, _, _, _, _, pvs ++ [_], spath ++ mp, rfl, ⟨by omega, rowS_eq hra9 rfl (by rw [take_snoc hx2, rowCells_app]; rfl), rowS_eq hrw7 rfl rfl, hP2⟩, rfl, rfl⟩)
       exact each_nil
      exact each_nil
     exact each_nil
    refine Zy 2048 7807 [10, 6, 3, 1] [true, true, true, true] [(10, (_, _)), (6, (_, _)), (3, (_, _)), (1, (_, _))] rfl Y rfl rfl rfl rfl (w_buildSlice (vs := [_]) (cs := [_]) underlying77 sizeOf61 zeroValue61 Y rfl rfl rfl rfl rfl) ?hk_19 (fun _ _ h => h.elim) ?hl_19
    case hk_19 =>
     rintro _ _ ⟨gb2, rfl, rfl⟩
     refine ⟨Zk (keep_consm (by simp [*]) (Zk (Zk (keep_nil)))), ?_⟩
     refine Yz 7 124 7935 [10, 6, 3, 1] [true, false, false, true] [(10, (_, _)), (1, (_, _))] rfl Y rfl rfl rfl rfl (w_buildSlice (vs := [_]) (cs := [_, _, _, _, _]) underlying38 sizeOf67 zeroValue67 Y rfl rfl rfl rfl rfl) ?_
     rintro _ _ ⟨gb1, rfl, rfl⟩
     refine ⟨Zk (Zk (keep_nil)), ?_⟩
     refine Yz 8 255 8191 [10, 1] [true, false] [(10, (_, _))] rfl Y rfl rfl rfl rfl (w_append_subS (by_ := 40) (sz := 5) underlying38 (rfl : Tryz.prog.info? 67 = some Tryz.t67) rfl rfl rfl rfl Y (hr2) Y (subS_new 5 gb1 1 1 67 (0, 0) [.int .i64 x.t, .int .i64 x.k, .int .i64 x.v.a, .int .i64 x.v.b, .int .i64 x.v.c] rfl) Wo Wo (by simp [Value.oneCell']) (by omega) (by omega)) ?_
     rintro _ _ ⟨sa9, hra9, rfl⟩
     refine ⟨Zk (keep_nil), ?_⟩
     obtain ⟨ga9, ca9, rfl⟩ := hra9.form
     refine Zi 24575 14 rfl (p_fieldAddr0 (off := 6) underlying79 rfl rfl sizeOf38 Y) <| Zz (l := [13]) ?_
     refine Zy 8191 32767 [10] [false] [] rfl Y rfl rfl rfl rfl (w_appendS (by_ := 24) (sz := 1) (news := [_]) underlying77 (rfl : Tryz.prog.info? 61 = some Tryz.t61) rfl rfl rfl rfl Y hp2 Y Wo Wh (by rfl) rfl (by simp [Value.oneCell', Value.cells]) (by decide) (by omega) (by omega)) ?hk_22 (fun _ _ h => h.elim) ?hl_22
     case hk_22 =>
      rintro _ _ ⟨sw7, hrw7, rfl⟩
      refine ⟨keep_nil, ?_⟩
      obtain ⟨gw7, cw7, rfl⟩ := hrw7.form
      refine Yz 15 32767 65535 [] [] [] rfl Y rfl rfl rfl rfl (Zs sizeOf38 Y Y rfl (hc := by exact (rfl : _ = (#[.int .i64 (t : Int), .int .i64 (c : Int), .int .i64 lo, .int .i64 hi, .int .i64 (((ordL rs (t : Int) c).length : Nat) : Int), .int .i64 (((fromT (ordL rs (t : Int) c) c lo) : Nat) : Int), _, _, .slice qt 16 ct] : Array Value))) (hi := by first | omega | decide | (simp; done))) ?_
      rintro _ _ ⟨rfl, rfl⟩
      refine ⟨keep_nil, ?_⟩
      refine Zi 131071 16 rfl (p_fieldAddr0 (off := 7) underlying79 rfl rfl sizeOf77 Y) <| Zz (l := [17]) ?_
      refine Zy 131071 262143 [] [] [] rfl Y rfl rfl rfl rfl (Zs sizeOf77 Y Y rfl (hc := by exact (rfl : _ = (#[.int .i64 (t : Int), .int .i64 (c : Int), .int .i64 lo, .int .i64 hi, .int .i64 (((ordL rs (t : Int) c).length : Nat) : Int), .int .i64 (((fromT (ordL rs (t : Int) c) c lo) : Nat) : Int), _, _, .slice qt 16 ct] : Array Value))) (hi := by first | omega | decide | (simp; done))) ?hk_24 (fun _ _ h => h.elim) ?hl_24
      case hk_24 =>
       rintro _ _ ⟨rfl, rfl⟩
       refine ⟨keep_nil, ?_⟩
       refine lin_nil ?_
       refine Zn [10, 12, 15, 16, 17] ?_
       refine nx_block_normal <| Zx <| Zg <| Zm Y <| Ya (n := 1) Y Y <| Za Y <| Z0 <| Zn [17, 10, 12, 15, 16] ?_
       refine nx_againB (e' := [(17, _)]) (m := _) (H' := _) (by exact ⟨k + 1, _, _, _, _, pvs ++ [_], spath ++ mp, rfl, ⟨by omega, rowS_eq hra9 rfl (by rw [take_snoc hx2, rowCells_app]; rfl), rowS_eq hrw7 rfl rfl, hP2⟩, rfl, rfl⟩)
      exact each_nil
     exact each_nil
    exact each_nil
   have ek : k = (toT (ordL rs (t : Int) c) c hi) - (fromT (ordL rs (t : Int) c) c lo) := by omega
   subst ek
   refine at_exit <| Zt <| Zt <| nx_block_exit <| Zx <| Zq <| Zg <| Zo Wh (p_load_agg (cs := #[.int .i64 (t : Int), .int .i64 (c : Int), .int .i64 lo, .int .i64 hi, .int .i64 (((ordL rs (t : Int) c).length : Nat) : Int), .int .i64 (((fromT (ordL rs (t : Int) c) c lo) : Nat) : Int), .slice q2 _ c2, .slice q3 _ c3, .slice qt 16 ct]) isAgg79 sizeOf79 Y Wb (by rfl)) ?_
   refine Xe (w_store_agg sizeOf79 Y Y (by simp [Value.oneCell', Value.cells]) Wu (by exact (rfl : _ = (#[.int .i64 (t : Int), .int .i64 (c : Int), .int .i64 lo, .int .i64 hi, .int .i64 (((ordL rs (t : Int) c).length : Nat) : Int), .int .i64 (((fromT (ordL rs (t : Int) c) c lo) : Nat) : Int), .slice q2 _ c2, .slice q3 _ c3, .slice qt 16 ct] : Array Value))) (by first | rfl | (simp; done)) Wb (by exact free_zero _)) ?_
   refine Za Y <| Z0 <| Zx <| at_ret ?_
   refine nx_endct rfl results26 Y Wh (loadVar_agg isAgg79 sizeOf79 Wn (rfl)) Y (by exact ⟨_, _, _, sr2, sp, pvs, mp, so, rfl, rowS_eq hr2 (by rw [List.length_take, List.length_drop]; omega) rfl, hp2, hP, hso, rfl⟩)
  refine Zy 0 2559 [5, 3, 2, 1] [true, true, true, true] [(5, (_, _)), (3, (_, _)), (2, (_, _)), (1, (_, _))] rfl Y rfl rfl rfl rfl (w_alloc zeroValue79 (cs := #[_, _, _, _, _, _, _, _, _]) rfl) ?hk_27 (fun _ _ h => h.elim) ?hl_27
  case hk_27 =>
   rintro _ _ ⟨pb, rfl, rfl⟩
   refine ⟨Zk (Zk (Zk (Zk (keep_nil)))), ?_⟩
   refine Zz (l := [9]) ?_
   refine Zy 256 3071 [5, 3, 2, 1] [true, true, true, true] [(5, (_, _)), (3, (_, _)), (2, (_, _)), (1, (_, _))] rfl Y rfl rfl rfl rfl (Zw [_] Y call59 Y rfl (summ_spec _ p rs s hv hs hn hok Tg zg)) ?hk_28 no_pan ?hl_28
   case hk_28 =>
    rintro _ _ ⟨_, ⟨so, hso, rfl⟩, rfl⟩
    refine ⟨Zk (Zk (Zk (Zk (keep_nil)))), ?_⟩
    obtain ⟨qt, ct, rfl⟩ := hso.form
    refine Zi 4095 10 rfl (p_build (vs := [(0, .int .i64 (t : Int)), (1, .int .i64 (c : Int)), (2, .int .i64 lo), (3, .int .i64 hi), (4, .int .i64 (((ordL rs (t : Int) c).length : Nat) : Int)), (5, .int .i64 (((fromT (ordL rs (t : Int) c) c lo) : Nat) : Int)), (8, .slice qt 16 ct)]) (cs := #[.int .i64 (t : Int), .int .i64 (c : Int), .int .i64 lo, .int .i64 hi, .int .i64 (((ordL rs (t : Int) c).length : Nat) : Int), .int .i64 (((fromT (ordL rs (t : Int) c) c lo) : Nat) : Int), .slice none 0 0, .slice none 0 0, .slice qt 16 ct]) Y (run_build_struct (pl := #[(0, 1), (1, 1), (2, 1), (3, 1), (4, 1), (5, 1), (6, 1), (7, 1), (8, 1)]) zeroValue79 underlying79 (fun _ => by kernel_rfl) (by kernel_rfl))) ?_
    refine Yz 12 4095 8191 [5, 3, 2, 1] [false, false, false, false] [] rfl Y rfl rfl rfl rfl (w_store_agg sizeOf79 Y Y (by simp [Value.oneCell', Value.cells]) Wu (by exact (rfl : _ = (#[.int .i64 (t : Int), .int .i64 (c : Int), .int .i64 lo, .int .i64 hi, .int .i64 (((ordL rs (t : Int) c).length : Nat) : Int), .int .i64 (((fromT (ordL rs (t : Int) c) c lo) : Nat) : Int), .slice none 0 0, .slice none 0 0, .slice qt 16 ct] : Array Value))) (by first | rfl | (simp; done)) Wb (by exact free_zero _)) ?_
    rintro _ _ ⟨rfl, rfl⟩
    refine ⟨keep_nil, ?_⟩
    refine lin_nil ?_
    refine Zn [10, 12, 14, 15, 16] ?_
    refine Zx <| Zq <| Zq <| Zg <| Zm Y <| Za Y <| Z0 <| Zx <| at_block <| at_nil ?_
    refine at_nil ?_
    refine at_nil ?_
    refine Zb [17, 10, 12, 15, 16] ?_
    refine at_loopB (e0 := [(17, _)]) (H0 := _) (n := _) (fun m e H => ∃ (k : Nat) (vr2 : Value) (sr2 : List Chunk) (vp : Value) (sp : List Chunk) (pvs : List Value) (mp : List Chunk), m = (toT (ordL rs (t : Int) c) c hi) - (fromT (ordL rs (t : Int) c) c lo) - k ∧ (k ≤ (toT (ordL rs (t : Int) c) c hi) - (fromT (ordL rs (t : Int) c) c lo) ∧ RowS 5 67 vr2 k (rowCells (((ordL rs (t : Int) c).drop (fromT (ordL rs (t : Int) c) c lo)).take k)) sr2 ∧ RowS 1 61 vp k pvs sp ∧ PathsS mp pvs (pathsT (ordL rs (t : Int) c) (fromT (ordL rs (t : Int) c) c lo) k)) ∧ e = [(17, .int .i64 (((fromT (ordL rs (t : Int) c) c lo) + k : Nat) : Int))] ∧ H = [[(pb, .cells #[.int .i64 (t : Int), .int .i64 (c : Int), .int .i64 lo, .int .i64 hi, .int .i64 (((ordL rs (t : Int) c).length : Nat) : Int), .int .i64 (((fromT (ordL rs (t : Int) c) c lo) : Nat) : Int), vr2, vp, .slice qt 16 ct] 79 (0, 0))], sr2, sp, mp]) (by exact ⟨0, .slice none 0 0, [], .slice none 0 0, [], [], [], rfl, ⟨Nat.zero_le _, by rw [List.take_zero]; exact rowS_nil 5 _, rowS_nil 1 _, paths_nil _⟩, rfl, rfl⟩) Wp ?_
    rintro _ _ _ ⟨k, vr2, sr2, vp, sp, pvs, mp, rfl, ⟨hk, hr2, hp2, hP⟩, rfl, rfl⟩
    obtain ⟨q2, c2, rfl⟩ := hr2.form
    obtain ⟨q3, c3, rfl⟩ := hp2.form
    refine Zq <| Zq <| Zg <| Zm Y <| Zm Y <| Zv (p_lss_nat Y Y) <| Z0 <| Zx ?_
    refine at_if Y (fun hlt => ?_) (fun hlt => ?_)
    ·
     obtain ⟨x, hx⟩ : ∃ x, (ordL rs (t : Int) c)[(fromT (ordL rs (t : Int) c) c lo) + k]? = some x := ⟨_, List.getElem?_eq_getElem (by omega)⟩
     obtain ⟨g, off, cur, T, zz, rfl, hm9, hsz9, hex9⟩ := hg _ x hx
     have hx2 : ((ordL rs (t : Int) c).drop (fromT (ordL rs (t : Int) c) c lo))[k]? = some x := by rw [List.getElem?_drop]; exact hx
     refine at_skip <| Zx <| Zq <| at_block <| Zq <| Zg <| Zh 1 underlying130 rfl rfl sizeOf61 Y <| Zl isAgg61 Y ?_
     refine Zm Y <| Zc [_, _] Y call60 Y rfl (proof_spec hSU (by rw [encL_len]; omega) (fun s h => by have := encL_ok (fun r hr => hok r (range_mem hr)) s h; omega) ((fromT (ordL rs (t : Int) c) c lo) + k) (by rw [encL_len]; omega) Tg zg) ?_
     rintro _ _ ⟨_, ⟨vpath, spath, rfl, hpath, rfl⟩, rfl⟩
     have hplen : (proofT (encL (ordL rs (t : Int) c)) ((fromT (ordL rs (t : Int) c) c lo) + k)).length ≤ maxLen := path_le hpath
     have hPU := strsU_row hpath hplen
     have hP2 := pathsT_snoc (ordL rs (t : Int) c) (fromT (ordL rs (t : Int) c) c lo) k ▸ hP.snoc (hPU.mono (fun c h => List.mem_append_left mp h)) (fun c h => List.mem_append_right spath h)
     obtain ⟨qx, cx, rfl⟩ := hpath.form
     refine Zm Y <| Zd Y rfl <| Zd Y rfl <| Za Y <| Za Y <| Z0 <| Zx <| at_join (s1 := spath) (s2 := mp) Wo Wo ?_
     refine at_draw (n := 18) (0 :: 1 :: 0 :: 4 :: 0 :: 28 :: 60 :: 124 :: 255 :: 0 :: 512 :: 0 :: 2048 :: 8191 :: 2047 :: 32767 :: 65535 :: 131071 :: []) 176512 (by kernel_rfl) (by kernel_rfl) rfl ?_
     refine Zi 1 0 rfl (p_fieldAddr0 (off := 6) underlying79 rfl rfl sizeOf38 Y) <| Zj 3 1 rfl isAgg38 Y ?_
     refine Zi 7 2 rfl (p_fieldAddr0 (off := 0) underlying130 rfl rfl sizeOf38 Y) <| Zj 15 3 rfl isAgg38 Y ?_
     refine Zi 31 4 rfl (p_move Y) ?_
     (refine lin_v (D' := 63) 5 (p_indexAddr_nat underlying38 sizeOf67 Y Y ?_) ?_; (focus (first | omega | decide | (simp; done))))
     refine lin_rm (b := g) (x := .cells cur T zz) (D' := 127) 6 rfl rfl rfl (by simp [hm9]) (p_load_agg (cs := #[.int .i64 x.t, .int .i64 x.k, .int .i64 x.v.a, .int .i64 x.v.b, .int .i64 x.v.c]) isAgg67 sizeOf67 Y (by omega) hex9) ?_
     refine Zi 639 9 rfl (p_fieldAddr0 (off := 7) underlying79 rfl rfl sizeOf77 Y) <| Zj 1663 10 rfl isAgg77 Y ?_
     refine Zi 3711 11 rfl (p_move Y) <| Zz (l := [7, 12]) ?_
     refine Zy 124 3839 [10, 6, 3, 1] [true, false, false, true] [(10, (_, _)), (1, (_, _))] rfl Y rfl rfl rfl rfl (w_buildSlice (vs := [_]) (cs := [_, _, _, _, _]) underlying38 sizeOf67 zeroValue67 Y rfl rfl rfl rfl rfl) ?hk_31 (fun _ _ h => h.elim) ?hl_31
     case hk_31 =>
      rintro _ _ ⟨gb1, rfl, rfl⟩
      refine ⟨Zk (Zk (keep_nil)), ?_⟩
      refine Zz (l := [8, 12]) ?_
      refine Zy 255 4095 [10, 1] [true, false] [(10, (_, _))] rfl Y rfl rfl rfl rfl (w_append_subS (by_ := 40) (sz := 5) underlying38 (rfl : Tryz.prog.info? 67 = some Tryz.t67) rfl rfl rfl rfl Y (hr2) Y (subS_new 5 gb1 1 1 67 (0, 0) [.int .i64 x.t, .int .i64 x.k, .int .i64 x.v.a, .int .i64 x.v.b, .int .i64 x.v.c] rfl) Wo Wo (by simp [Value.oneCell']) (by omega) (by omega)) ?hk_32 (fun _ _ h => h.elim) ?hl_32
      case hk_32 =>
       rintro _ _ ⟨sa9, hra9, rfl⟩
       refine ⟨Zk (keep_nil), ?_⟩
       obtain ⟨ga9, ca9, rfl⟩ := hra9.form
       refine Zi 20479 14 rfl (p_fieldAddr0 (off := 6) underlying79 rfl rfl sizeOf38 Y) <| Zz (l := [12]) ?_
       refine Zy 2048 24575 [10] [true] [(10, (_, _))] rfl Y rfl rfl rfl rfl (w_buildSlice (vs := [_]) (cs := [_]) underlying77 sizeOf61 zeroValue61 Y rfl rfl rfl rfl rfl) ?hk_33 (fun _ _ h => h.elim) ?hl_33
       case hk_33 =>
        rintro _ _ ⟨gb2, rfl, rfl⟩
        refine ⟨Zk (keep_nil), ?_⟩
        refine Yz 13 8191 32767 [10] [false] [] rfl Y rfl rfl rfl rfl (w_appendS (by_ := 24) (sz := 1) (news := [_]) underlying77 (rfl : Tryz.prog.info? 61 = some Tryz.t61) rfl rfl rfl rfl Y hp2 Y Wo Wh (by rfl) rfl (by simp [Value.oneCell', Value.cells]) (by decide) (by omega) (by omega)) ?_
        rintro _ _ ⟨sw7, hrw7, rfl⟩
        refine ⟨keep_nil, ?_⟩
        obtain ⟨gw7, cw7, rfl⟩ := hrw7.form
        refine Yz 15 32767 65535 [] [] [] rfl Y rfl rfl rfl rfl (Zs sizeOf38 Y Y rfl (hc := by exact (rfl : _ = (#[.int .i64 (t : Int), .int .i64 (c : Int), .int .i64 lo, .int .i64 hi, .int .i64 (((ordL rs (t : Int) c).length : Nat) : Int), .int .i64 (((fromT (ordL rs (t : Int) c) c lo) : Nat) : Int), _, _, .slice qt 16 ct] : Array Value))) (hi := by first | omega | decide | (simp; done))) ?_
        rintro _ _ ⟨rfl, rfl⟩
        refine ⟨keep_nil, ?_⟩
        refine Zi 131071 16 rfl (p_fieldAddr0 (off := 7) underlying79 rfl rfl sizeOf77 Y) <| Zz (l := [17]) ?_
        refine Zy 131071 262143 [] [] [] rfl Y rfl rfl rfl rfl (Zs sizeOf77 Y Y rfl (hc := by exact (rfl : _ = (#[.int .i64 (t : Int), .int .i64 (c : Int), .int .i64 lo, .int .i64 hi, .int .i64 (((ordL rs (t : Int) c).length : Nat) : Int), .int .i64 (((fromT (ordL rs (t : Int) c) c lo) : Nat) : Int), _, _, .slice qt 16 ct] : Array Value))) (hi := by first | omega | decide | (simp; done))) ?hk_36 (fun _ _ h => h.elim) ?hl_36
        case hk_36 =>
         rintro _ _ ⟨rfl, rfl⟩
         refine ⟨keep_nil, ?_⟩
         refine lin_nil ?_
         refine Zn [10, 12, 15, 16, 17] ?_
         refine nx_block_normal <| Zx <| Zg <| Zm Y <| Ya (n := 1) Y Y <| Za Y <| Z0 <| Zn [17, 10, 12, 15, 16] ?_
         refine nx_againB (e' := [(17, _)]) (m := _) (H' := _) (by exact ⟨k + 1, _, _, _, _, pvs ++ [_], spath ++ mp, rfl, ⟨by omega, rowS_eq hra9 rfl (by rw [take_snoc hx2, rowCells_app]; rfl), rowS_eq hrw7 rfl rfl, hP2⟩, rfl, rfl⟩)
        exact each_nil
       exact each_nil
      refine Zy 2048 7935 [10, 1] [true, true] [(10, (_, _)), (1, (_, _))] rfl Y rfl rfl rfl rfl (w_buildSlice (vs := [_]) (cs := [_]) underlying77 sizeOf61 zeroValue61 Y rfl rfl rfl rfl rfl) ?hk_38 (fun _ _ h => h.elim) ?hl_38
      case hk_38 =>
       rintro _ _ ⟨gb2, rfl, rfl⟩
       refine ⟨Zk (Zk (keep_nil)), ?_⟩
       refine Yz 8 255 8191 [10, 1] [true, false] [(10, (_, _))] rfl Y rfl rfl rfl rfl (w_append_subS (by_ := 40) (sz := 5) underlying38 (rfl : Tryz.prog.info? 67 = some Tryz.t67) rfl rfl rfl rfl Y (hr2) Y (subS_new 5 gb1 1 1 67 (0, 0) [.int .i64 x.t, .int .i64 x.k, .int .i64 x.v.a, .int .i64 x.v.b, .int .i64 x.v.c] rfl) Wo Wo (by simp [Value.oneCell']) (by omega) (by omega)) ?_
       rintro _ _ ⟨sa9, hra9, rfl⟩
       refine ⟨Zk (keep_nil), ?_⟩
       obtain ⟨ga9, ca9, rfl⟩ := hra9.form
       refine Zi 24575 14 rfl (p_fieldAddr0 (off := 6) underlying79 rfl rfl sizeOf38 Y) <| Zz (l := [13]) ?_
       refine Zy 8191 32767 [10] [false] [] rfl Y rfl rfl rfl rfl (w_appendS (by_ := 24) (sz := 1) (news := [_]) underlying77 (rfl : Tryz.prog.info? 61 = some Tryz.t61) rfl rfl rfl rfl Y hp2 Y Wo Wh (by rfl) rfl (by simp [Value.oneCell', Value.cells]) (by decide) (by omega) (by omega)) ?hk_40 (fun _ _ h => h.elim) ?hl_40
       case hk_40 =>
        rintro _ _ ⟨sw7, hrw7, rfl⟩
        refine ⟨keep_nil, ?_⟩
        obtain ⟨gw7, cw7, rfl⟩ := hrw7.form
        refine Yz 15 32767 65535 [] [] [] rfl Y rfl rfl rfl rfl (Zs sizeOf38 Y Y rfl (hc := by exact (rfl : _ = (#[.int .i64 (t : Int), .int .i64 (c : Int), .int .i64 lo, .int .i64 hi, .int .i64 (((ordL rs (t : Int) c).length : Nat) : Int), .int .i64 (((fromT (ordL rs (t : Int) c) c lo) : Nat) : Int), _, _, .slice qt 16 ct] : Array Value))) (hi := by first | omega | decide | (simp; done))) ?_
        rintro _ _ ⟨rfl, rfl⟩
        refine ⟨keep_nil, ?_⟩
        refine Zi 131071 16 rfl (p_fieldAddr0 (off := 7) underlying79 rfl rfl sizeOf77 Y) <| Zz (l := [17]) ?_
        refine Zy 131071 262143 [] [] [] rfl Y rfl rfl rfl rfl (Zs sizeOf77 Y Y rfl (hc := by exact (rfl : _ = (#[.int .i64 (t : Int), .int .i64 (c : Int), .int .i64 lo, .int .i64 hi, .int .i64 (((ordL rs (t : Int) c).length : Nat) : Int), .int .i64 (((fromT (ordL rs (t : Int) c) c lo) : Nat) : Int), _, _, .slice qt 16 ct] : Array Value))) (hi := by first | omega | decide | (simp; done))) ?hk_42 (fun _ _ h => h.elim) ?hl_42
        case hk_42 =>
         rintro _ _ ⟨rfl, rfl⟩
         refine ⟨keep_nil, ?_⟩
         refine lin_nil ?_
         refine Zn [10, 12, 15, 16, 17] ?_
         refine nx_block_normal <| Zx <| Zg <| Zm Y <| Ya (n := 1) Y Y <| Za Y <| Z0 <| Zn [17, 10, 12, 15, 16] ?_
         refine nx_againB (e' := [(17, _)]) (m := _) (H' := _) (by exact ⟨k + 1, _, _, _, _, pvs ++ [_], spath ++ mp, rfl, ⟨by omega, rowS_eq hra9 rfl (by rw [take_snoc hx2, rowCells_app]; rfl), rowS_eq hrw7 rfl rfl, hP2⟩, rfl, rfl⟩)
        exact each_nil
       exact each_nil
      exact each_nil
     refine Zy 2048 7807 [10, 6, 3, 1] [true, true, true, true] [(10, (_, _)), (6, (_, _)), (3, (_, _)), (1, (_, _))] rfl Y rfl rfl rfl rfl (w_buildSlice (vs := [_]) (cs := [_]) underlying77 sizeOf61 zeroValue61 Y rfl rfl rfl rfl rfl) ?hk_44 (fun _ _ h => h.elim) ?hl_44
     case hk_44 =>
      rintro _ _ ⟨gb2, rfl, rfl⟩
      refine ⟨Zk (keep_consm (by simp [*]) (Zk (Zk (keep_nil)))), ?_⟩
      refine Yz 7 124 7935 [10, 6, 3, 1] [true, false, false, true] [(10, (_, _)), (1, (_, _))] rfl Y rfl rfl rfl rfl (w_buildSlice (vs := [_]) (cs := [_, _, _, _, _]) underlying38 sizeOf67 zeroValue67 Y rfl rfl rfl rfl rfl) ?_
      rintro _ _ ⟨gb1, rfl, rfl⟩
      refine ⟨Zk (Zk (keep_nil)), ?_⟩
      refine Yz 8 255 8191 [10, 1] [true, false] [(10, (_, _))] rfl Y rfl rfl rfl rfl (w_append_subS (by_ := 40) (sz := 5) underlying38 (rfl : Tryz.prog.info? 67 = some Tryz.t67) rfl rfl rfl rfl Y (hr2) Y (subS_new 5 gb1 1 1 67 (0, 0) [.int .i64 x.t, .int .i64 x.k, .int .i64 x.v.a, .int .i64 x.v.b, .int .i64 x.v.c] rfl) Wo Wo (by simp [Value.oneCell']) (by omega) (by omega)) ?_
      rintro _ _ ⟨sa9, hra9, rfl⟩
      refine ⟨Zk (keep_nil), ?_⟩
      obtain ⟨ga9, ca9, rfl⟩ := hra9.form
      refine Zi 24575 14 rfl (p_fieldAddr0 (off := 6) underlying79 rfl rfl sizeOf38 Y) <| Zz (l := [13]) ?_
      refine Zy 8191 32767 [10] [false] [] rfl Y rfl rfl rfl rfl (w_appendS (by_ := 24) (sz := 1) (news := [_]) underlying77 (rfl : Tryz.prog.info? 61 = some Tryz.t61) rfl rfl rfl rfl Y hp2 Y Wo Wh (by rfl) rfl (by simp [Value.oneCell', Value.cells]) (by decide) (by omega) (by omega)) ?hk_47 (fun _ _ h => h.elim) ?hl_47
      case hk_47 =>
       rintro _ _ ⟨sw7, hrw7, rfl⟩
       refine ⟨keep_nil, ?_⟩
       obtain ⟨gw7, cw7, rfl⟩ := hrw7.form
       refine Yz 15 32767 65535 [] [] [] rfl Y rfl rfl rfl rfl (Zs sizeOf38 Y Y rfl (hc := by exact (rfl : _ = (#[.int .i64 (t : Int), .int .i64 (c : Int), .int .i64 lo, .int .i64 hi, .int .i64 (((ordL rs (t : Int) c).length : Nat) : Int), .int .i64 (((fromT (ordL rs (t : Int) c) c lo) : Nat) : Int), _, _, .slice qt 16 ct] : Array Value))) (hi := by first | omega | decide | (simp; done))) ?_
       rintro _ _ ⟨rfl, rfl⟩
       refine ⟨keep_nil, ?_⟩
       refine Zi 131071 16 rfl (p_fieldAddr0 (off := 7) underlying79 rfl rfl sizeOf77 Y) <| Zz (l := [17]) ?_
       refine Zy 131071 262143 [] [] [] rfl Y rfl rfl rfl rfl (Zs sizeOf77 Y Y rfl (hc := by exact (rfl : _ = (#[.int .i64 (t : Int), .int .i64 (c : Int), .int .i64 lo, .int .i64 hi, .int .i64 (((ordL rs (t : Int) c).length : Nat) : Int), .int .i64 (((fromT (ordL rs (t : Int) c) c lo) : Nat) : Int), _, _, .slice qt 16 ct] : Array Value))) (hi := by first | omega | decide | (simp; done))) ?hk_49 (fun _ _ h => h.elim) ?hl_49
       case hk_49 =>
        rintro _ _ ⟨rfl, rfl⟩
        refine ⟨keep_nil, ?_⟩
        refine lin_nil ?_
        refine Zn [10, 12, 15, 16, 17] ?_
        refine nx_block_normal <| Zx <| Zg <| Zm Y <| Ya (n := 1) Y Y <| Za Y <| Z0 <| Zn [17, 10, 12, 15, 16] ?_
        refine nx_againB (e' := [(17, _)]) (m := _) (H' := _) (by exact ⟨k + 1, _, _, _, _, pvs ++ [_], spath ++ mp, rfl, ⟨by omega, rowS_eq hra9 rfl (by rw [take_snoc hx2, rowCells_app]; rfl), rowS_eq hrw7 rfl rfl, hP2⟩, rfl, rfl⟩)
       exact each_nil
      exact each_nil
     exact each_nil
    have ek : k = (toT (ordL rs (t : Int) c) c hi) - (fromT (ordL rs (t : Int) c) c lo) := by omega
    subst ek
    refine at_exit <| Zt <| Zt <| nx_block_exit <| Zx <| Zq <| Zg <| Zo Wh (p_load_agg (cs := #[.int .i64 (t : Int), .int .i64 (c : Int), .int .i64 lo, .int .i64 hi, .int .i64 (((ordL rs (t : Int) c).length : Nat) : Int), .int .i64 (((fromT (ordL rs (t : Int) c) c lo) : Nat) : Int), .slice q2 _ c2, .slice q3 _ c3, .slice qt 16 ct]) isAgg79 sizeOf79 Y Wb (by rfl)) ?_
    refine Xe (w_store_agg sizeOf79 Y Y (by simp [Value.oneCell', Value.cells]) Wu (by exact (rfl : _ = (#[.int .i64 (t : Int), .int .i64 (c : Int), .int .i64 lo, .int .i64 hi, .int .i64 (((ordL rs (t : Int) c).length : Nat) : Int), .int .i64 (((fromT (ordL rs (t : Int) c) c lo) : Nat) : Int), .slice q2 _ c2, .slice q3 _ c3, .slice qt 16 ct] : Array Value))) (by first | rfl | (simp; done)) Wb (by exact free_zero _)) ?_
    refine Za Y <| Z0 <| Zx <| at_ret ?_
    refine nx_endct rfl results26 Y Wh (loadVar_agg isAgg79 sizeOf79 Wn (rfl)) Y (by exact ⟨_, _, _, sr2, sp, pvs, mp, so, rfl, rowS_eq hr2 (by rw [List.length_take, List.length_drop]; omega) rfl, hp2, hP, hso, rfl⟩)
   exact each_nil
  exact each_nil
 exact each_nil

end Go.Proofs.YtkgmgmkbgnkdnaaGreatDoor
