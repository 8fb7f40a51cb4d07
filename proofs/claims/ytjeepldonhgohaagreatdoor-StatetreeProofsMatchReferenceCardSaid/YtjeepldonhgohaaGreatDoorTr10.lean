/- statetree: Same; SameRows; the Same of the reference of layer 2. -/
import Derived.Test.YtjeepldonhgohaaGreatDoorEz
import Derived.Test.YtjeepldonhgohaaGreatDoorTr9
import Derived.Test.YtjeepldonhgohaaGreatDoorEx22

namespace Go.Proofs.YtjeepldonhgohaaGreatDoor
open Go.Proofs.Tryz
open Go Go.RowKit Gw
set_option linter.unusedVariables false
set_option linter.unusedSimpArgs false
set_option maxRecDepth 100000
attribute [local irreducible] Gw.At Gw.Nx Gw.Ops
theorem list_eq {α : Type} {a b : List α} (hl : a.length = b.length) (h : ∀ j, j < a.length → a[j]? = b[j]?) : a = b := by
  apply List.ext_getElem?
  intro i
  rcases Nat.lt_or_ge i a.length with h9 | h9
  · exact h i h9
  · rw [List.getElem?_eq_none h9, List.getElem?_eq_none (by omega)]
theorem eq_false {α : Type} [DecidableEq α] {a b : α} (h : ¬ a = b) : Value.bool false = Value.bool (decide (a = b)) := congrArg Value.bool (decide_eq_false h).symm
theorem eq_true' {α : Type} [DecidableEq α] {a b : α} (h : a = b) : Value.bool true = Value.bool (decide (a = b)) := congrArg Value.bool (decide_eq_true h).symm
theorem row_eq {a b : RowM} : RowEq a.t b.t a.k b.k a.v b.v ↔ a = b := by
  obtain ⟨t, k, v⟩ := a
  obtain ⟨t2, k2, v2⟩ := b
  simp [RowEq]

theorem eqs_spec {M : List Chunk} {va vb : Value} {a b : List Bs} (ha : StrsU M va a) (hb : StrsU M vb b) : DoesR Tryz.prog 56 #[va, vb] [M] (.bool (decide (a = b))) := by
 have hml : maxLen = 9223372036854775807 := rfl
 obtain ⟨pa, ca, rfl, hla, hga⟩ := ha
 obtain ⟨pb, cb, rfl, hlb, hgb⟩ := hb
 refine spec_enter func56 rfl ntmps56 rfl ?_
 intro u R
 refine Zb [0, 1] ?_
 refine Zq <| Zg <| Za Y <| Z0 <| Zx <| Zq <| Zq <| Zg <| Zm Y <| Zv (p_len_slice underlying35 Y) <| Zm Y <| Zv (p_len_slice underlying35 Y) <| Zv (p_neq_nat Y Y) <| Z0 <| Zx ?_
 refine at_if Y (fun hne => ?_) (fun hne => ?_)
 ·
  refine Zq <| Zg <| Za Y <| Z0 <| Zx <| at_ret <| Zt ?_
  refine nx_end1 rfl results56 Y (by exact ⟨eq_false (fun e => hne (by rw [e])), rfl⟩)
 ·
  have hle : a.length = b.length := by omega
  refine at_skip <| Zx <| Zq <| Zq <| Zg <| Zm Y <| Zv (p_len_slice underlying35 Y) <| Zm Y <| Z0 <| Zx <| at_block <| Zb [13, 0, 1, 12] ?_
  refine at_loopB (e0 := [(13, _)]) (H0 := _) (n := _) (fun m e H => ∃ (i : Nat), m = a.length - i ∧ (i ≤ a.length ∧ ∀ j, j < i → a[j]? = b[j]?) ∧ e = [(13, .int .i64 (i : Int))] ∧ H = []) (by exact ⟨0, rfl, ⟨Nat.zero_le _, by intro j hj; omega⟩, rfl, rfl⟩) (by repeat (first | exact Pull.nil _ | (apply Pull.cons; (focus (repeat (first | exact One.here _ _ | apply One.there)))))) ?_
  rintro _ _ _ ⟨i, rfl, ⟨hi, hall⟩, rfl, rfl⟩
  refine Zq <| Zg <| Zv (p_lss_nat Y Y) <| Z0 <| Zx <| Zq ?_
  refine at_if Y (fun hlt => ?_) (fun hlt => ?_)
  ·
   obtain ⟨x, hx⟩ : ∃ x, a[i]? = some x := ⟨_, List.getElem?_eq_getElem (by omega)⟩
   obtain ⟨y, hy⟩ : ∃ y, b[i]? = some y := ⟨_, List.getElem?_eq_getElem (by omega)⟩
   obtain ⟨g1, off1, cur1, T1, zz1, rfl, hm1, hex1⟩ := hga i x hx
   obtain ⟨g2, off2, cur2, T2, zz2, rfl, hm2, hex2⟩ := hgb i y hy
   refine at_skip <| Zx <| Zq <| at_block <| Zq <| Zg <| Zm Y <| Za Y <| Z0 <| Zx <| Zq <| at_draw (n := 9) (0 :: 0 :: 3 :: 7 :: 0 :: 0 :: 48 :: 112 :: 255 :: []) 0 (by kernel_rfl) (by kernel_rfl) rfl ?_
   refine Zi 1 0 rfl (p_move Y) <| Zi 3 1 rfl (p_move Y) ?_
   (refine lin_v (D' := 7) 2 (p_indexAddr_nat1 underlying35 sizeOf9 Y Y ?_) ?_; (focus (omega)))
   refine lin_rm (b := g1) (x := .cells cur1 T1 zz1) (D' := 15) 3 rfl rfl rfl (by simp [hm1]) (p_load isAgg9 Y (by exact hex1)) ?_
   refine Zi 31 4 rfl (p_move Y) <| Zi 63 5 rfl (p_move Y) ?_
   (refine lin_v (D' := 127) 6 (p_indexAddr_nat1 underlying35 sizeOf9 Y Y ?_) ?_; (focus (omega)))
   refine lin_rm (b := g2) (x := .cells cur2 T2 zz2) (D' := 255) 7 rfl rfl rfl (by simp [hm2]) (p_load isAgg9 Y (by exact hex2)) ?_
   refine Zi 511 8 rfl (p_neq_str Y Y) <| lin_nil ?_
   refine Zx ?_
   refine at_if Y (fun hd => ?_) (fun hd => ?_)
   ·
    refine Zq <| Zg <| Za Y <| Z0 <| Zn [4] ?_
    refine Zx <| at_ret <| nx_block_ret <| Zt <| Zt <| nx_block_ret <| Zt ?_
    refine nx_end1 rfl results56 Y (by exact ⟨eq_false (fun e => by rw [e, hy] at hx; injection hx with hx; exact hd (by rw [hx])), rfl⟩)
   ·
    have heq : x = y := str_inj (Classical.not_not.1 hd)
    refine at_skip <| nx_block_normal <| Zx <| Zg <| Ya (n := 1) Y Y <| Zm Y <| Z0 <| Zn [13, 0, 1, 12] ?_
    refine nx_againB (e' := [(13, _)]) (m := _) (H' := _) (by exact ⟨i + 1, rfl, ⟨by omega, fun j hj => by rcases Nat.lt_or_ge j i with h9 | h9; exact hall j h9; obtain rfl : j = i := (by omega); rw [hx, hy]; exact congrArg some heq⟩, rfl, rfl⟩)
  ·
   refine at_exit <| Zt <| Zt <| nx_block_exit <| Zx <| Zq <| Zg <| Za Y <| Z0 <| Zx <| at_ret ?_
   refine nx_end1 rfl results56 Y (by exact ⟨eq_true' (list_eq hle (fun j hj => hall j (by omega))), rfl⟩)

theorem eqr_spec {M : List Chunk} {va vb : Value} {a b : List RowM} (ha : RowsU M va a) (hb : RowsU M vb b) : DoesR Tryz.prog 57 #[va, vb] [M] (.bool (decide (a = b))) := by
 have hml : maxLen = 9223372036854775807 := rfl
 obtain ⟨pa, ca, rfl, hla, hga⟩ := ha
 obtain ⟨pb, cb, rfl, hlb, hgb⟩ := hb
 refine spec_enter func57 rfl ntmps57 rfl ?_
 intro u R
 refine Zb [0, 1] ?_
 refine Zq <| Zg <| Za Y <| Z0 <| Zx <| Zq <| Zq <| Zg <| Zm Y <| Zv (p_len_slice underlying33 Y) <| Zm Y <| Zv (p_len_slice underlying33 Y) <| Zv (p_neq_nat Y Y) <| Z0 <| Zx ?_
 refine at_if Y (fun hne => ?_) (fun hne => ?_)
 ·
  refine Zq <| Zg <| Za Y <| Z0 <| Zx <| at_ret <| Zt ?_
  refine nx_end1 rfl results57 Y (by exact ⟨eq_false (fun e => hne (by rw [e])), rfl⟩)
 ·
  have hle : a.length = b.length := by omega
  refine at_skip <| Zx <| Zq <| Zq <| Zg <| Zm Y <| Zv (p_len_slice underlying33 Y) <| Zm Y <| Z0 <| Zx <| at_block <| Zb [13, 0, 1, 12] ?_
  refine at_loopB (e0 := [(13, _)]) (H0 := _) (n := _) (fun m e H => ∃ (i : Nat), m = a.length - i ∧ (i ≤ a.length ∧ ∀ j, j < i → a[j]? = b[j]?) ∧ e = [(13, .int .i64 (i : Int))] ∧ H = []) (by exact ⟨0, rfl, ⟨Nat.zero_le _, by intro j hj; omega⟩, rfl, rfl⟩) (by repeat (first | exact Pull.nil _ | (apply Pull.cons; (focus (repeat (first | exact One.here _ _ | apply One.there)))))) ?_
  rintro _ _ _ ⟨i, rfl, ⟨hi, hall⟩, rfl, rfl⟩
  refine Zq <| Zg <| Zv (p_lss_nat Y Y) <| Z0 <| Zx <| Zq ?_
  refine at_if Y (fun hlt => ?_) (fun hlt => ?_)
  ·
   obtain ⟨x, hx⟩ : ∃ x, a[i]? = some x := ⟨_, List.getElem?_eq_getElem (by omega)⟩
   obtain ⟨y, hy⟩ : ∃ y, b[i]? = some y := ⟨_, List.getElem?_eq_getElem (by omega)⟩
   obtain ⟨g1, off1, cur1, T1, zz1, rfl, hm1, hsz1, hex1⟩ := hga i x hx
   obtain ⟨g2, off2, cur2, T2, zz2, rfl, hm2, hsz2, hex2⟩ := hgb i y hy
   refine at_skip <| Zx <| Zq <| at_block <| Zq <| Zg <| Zm Y <| Za Y <| Z0 <| Zx <| Zq <| at_draw (n := 9) (0 :: 0 :: 3 :: 7 :: 0 :: 0 :: 48 :: 112 :: 255 :: []) 0 (by kernel_rfl) (by kernel_rfl) rfl ?_
   refine Zi 1 0 rfl (p_move Y) <| Zi 3 1 rfl (p_move Y) ?_
   (refine lin_v (D' := 7) 2 (p_indexAddr_nat underlying33 sizeOf74 Y Y ?_) ?_; (focus (omega)))
   refine lin_rm (b := g1) (x := .cells cur1 T1 zz1) (D' := 15) 3 rfl rfl rfl (by simp [hm1]) (p_load_agg (cs := #[.int .i64 x.t, .int .i64 x.k, .int .i64 x.v.a, .int .i64 x.v.b, .int .i64 x.v.c]) isAgg74 sizeOf74 Y (by omega) hex1) ?_
   refine Zi 31 4 rfl (p_move Y) <| Zi 63 5 rfl (p_move Y) ?_
   (refine lin_v (D' := 127) 6 (p_indexAddr_nat underlying33 sizeOf74 Y Y ?_) ?_; (focus (omega)))
   refine lin_rm (b := g2) (x := .cells cur2 T2 zz2) (D' := 255) 7 rfl rfl rfl (by simp [hm2]) (p_load_agg (cs := #[.int .i64 y.t, .int .i64 y.k, .int .i64 y.v.a, .int .i64 y.v.b, .int .i64 y.v.c]) isAgg74 sizeOf74 Y (by omega) hex2) ?_
   refine Zi 511 8 rfl (p_neq_row (by kernel_rfl) underlying74 (by kernel_rfl) (by decide) (by decide) (by decide) underlying3 underlying47 isAgg3 sizeOf3 isAgg47 sizeOf47 Y Y) ?_
   refine lin_nil ?_
   refine Zx ?_
   refine at_if Y (fun hd => ?_) (fun hd => ?_)
   ·
    refine Zq <| Zg <| Za Y <| Z0 <| Zn [4] ?_
    refine Zx <| at_ret <| nx_block_ret <| Zt <| Zt <| nx_block_ret <| Zt ?_
    refine nx_end1 rfl results57 Y (by exact ⟨eq_false (fun e => by rw [e, hy] at hx; injection hx with hx; exact hd (row_eq.2 hx.symm)), rfl⟩)
   ·
    have heq : x = y := row_eq.1 (Classical.not_not.1 hd)
    refine at_skip <| nx_block_normal <| Zx <| Zg <| Ya (n := 1) Y Y <| Zm Y <| Z0 <| Zn [13, 0, 1, 12] ?_
    refine nx_againB (e' := [(13, _)]) (m := _) (H' := _) (by exact ⟨i + 1, rfl, ⟨by omega, fun j hj => by rcases Nat.lt_or_ge j i with h9 | h9; exact hall j h9; obtain rfl : j = i := (by omega); rw [hx, hy]; exact congrArg some heq⟩, rfl, rfl⟩)
  ·
   refine at_exit <| Zt <| Zt <| nx_block_exit <| Zx <| Zq <| Zg <| Za Y <| Z0 <| Zx <| at_ret ?_
   refine nx_end1 rfl results57 Y (by exact ⟨eq_true' (list_eq hle (fun j hj => hall j (by omega))), rfl⟩)

theorem r2_same {M : List Chunk} {va vb : Value} {a b : List Bs} (ha : StrsU M va a) (hb : StrsU M vb b) : DoesR Tryz.prog 52 #[va, vb] [M] (.bool (decide (a = b))) := by
 have hml : maxLen = 9223372036854775807 := rfl
 obtain ⟨pa, ca, rfl, hla, hga⟩ := ha
 obtain ⟨pb, cb, rfl, hlb, hgb⟩ := hb
 refine spec_enter func52 rfl ntmps52 rfl ?_
 intro u R
 refine Zb [0, 1] ?_
 refine Zq <| Zg <| Za Y <| Z0 <| Zx <| Zq <| Zq <| Zg <| Zm Y <| Zv (p_len_slice underlying35 Y) <| Zm Y <| Zv (p_len_slice underlying35 Y) <| Zv (p_neq_nat Y Y) <| Z0 <| Zx ?_
 refine at_if Y (fun hne => ?_) (fun hne => ?_)
 ·
  refine Zq <| Zg <| Za Y <| Z0 <| Zx <| at_ret <| Zt ?_
  refine nx_end1 rfl results52 Y (by exact ⟨eq_false (fun e => hne (by rw [e])), rfl⟩)
 ·
  have hle : a.length = b.length := by omega
  refine at_skip <| Zx <| Zq <| Zq <| Zg <| Za Y <| Z0 <| Zx <| at_block <| Zb [5, 0, 1] ?_
  refine at_loopB (e0 := [(5, _)]) (H0 := _) (n := _) (fun m e H => ∃ (i : Nat), m = a.length - i ∧ (i ≤ a.length ∧ ∀ j, j < i → a[j]? = b[j]?) ∧ e = [(5, .int .i64 (i : Int))] ∧ H = []) (by exact ⟨0, rfl, ⟨Nat.zero_le _, by intro j hj; omega⟩, rfl, rfl⟩) (by repeat (first | exact Pull.nil _ | (apply Pull.cons; (focus (repeat (first | exact One.here _ _ | apply One.there)))))) ?_
  rintro _ _ _ ⟨i, rfl, ⟨hi, hall⟩, rfl, rfl⟩
  refine Zq <| Zq <| Zg <| Zm Y <| Zm Y <| Zv (p_len_slice underlying35 Y) <| Zv (p_lss_nat Y Y) <| Z0 <| Zx ?_
  refine at_if Y (fun hlt => ?_) (fun hlt => ?_)
  ·
   obtain ⟨x, hx⟩ : ∃ x, a[i]? = some x := ⟨_, List.getElem?_eq_getElem (by omega)⟩
   obtain ⟨y, hy⟩ : ∃ y, b[i]? = some y := ⟨_, List.getElem?_eq_getElem (by omega)⟩
   obtain ⟨g1, off1, cur1, T1, zz1, rfl, hm1, hex1⟩ := hga i x hx
   obtain ⟨g2, off2, cur2, T2, zz2, rfl, hm2, hex2⟩ := hgb i y hy
   refine at_skip <| Zx <| Zq <| at_block <| Zq <| at_draw (n := 9) (0 :: 0 :: 3 :: 7 :: 0 :: 0 :: 48 :: 112 :: 255 :: []) 0 (by kernel_rfl) (by kernel_rfl) rfl ?_
   refine Zi 1 0 rfl (p_move Y) <| Zi 3 1 rfl (p_move Y) ?_
   (refine lin_v (D' := 7) 2 (p_indexAddr_nat1 underlying35 sizeOf9 Y Y ?_) ?_; (focus (omega)))
   refine lin_rm (b := g1) (x := .cells cur1 T1 zz1) (D' := 15) 3 rfl rfl rfl (by simp [hm1]) (p_load isAgg9 Y (by exact hex1)) ?_
   refine Zi 31 4 rfl (p_move Y) <| Zi 63 5 rfl (p_move Y) ?_
   (refine lin_v (D' := 127) 6 (p_indexAddr_nat1 underlying35 sizeOf9 Y Y ?_) ?_; (focus (omega)))
   refine lin_rm (b := g2) (x := .cells cur2 T2 zz2) (D' := 255) 7 rfl rfl rfl (by simp [hm2]) (p_load isAgg9 Y (by exact hex2)) ?_
   refine Zi 511 8 rfl (p_neq_str Y Y) <| lin_nil ?_
   refine Zn [0, 1, 5, 25] ?_
   refine Zx ?_
   refine at_if Y (fun hd => ?_) (fun hd => ?_)
   ·
    refine Zq <| Zg <| Za Y <| Z0 <| Zx <| at_ret <| nx_block_ret <| Zt <| Zt <| nx_block_ret <| Zt ?_
    refine nx_end1 rfl results52 Y (by exact ⟨eq_false (fun e => by rw [e, hy] at hx; injection hx with hx; exact hd (by rw [hx])), rfl⟩)
   ·
    have heq : x = y := str_inj (Classical.not_not.1 hd)
    refine at_skip <| nx_block_normal <| Zx <| Zg <| Zm Y <| Ya (n := 1) Y Y <| Za Y <| Z0 <| Zn [5, 0, 1] ?_
    refine nx_againB (e' := [(5, _)]) (m := _) (H' := _) (by exact ⟨i + 1, rfl, ⟨by omega, fun j hj => by rcases Nat.lt_or_ge j i with h9 | h9; exact hall j h9; obtain rfl : j = i := (by omega); rw [hx, hy]; exact congrArg some heq⟩, rfl, rfl⟩)
  ·
   refine at_exit <| Zt <| Zt <| nx_block_exit <| Zx <| Zq <| Zg <| Za Y <| Z0 <| Zx <| at_ret ?_
   refine nx_end1 rfl results52 Y (by exact ⟨eq_true' (list_eq hle (fun j hj => hall j (by omega))), rfl⟩)

theorem r4_same {M : List Chunk} {va vb : Value} {a b : List RowM} (ha : RowsU M va a) (hb : RowsU M vb b) : DoesR Tryz.prog 17 #[va, vb] [M] (.bool (decide (a = b))) := by
 have hml : maxLen = 9223372036854775807 := rfl
 obtain ⟨pa, ca, rfl, hla, hga⟩ := ha
 obtain ⟨pb, cb, rfl, hlb, hgb⟩ := hb
 refine spec_enter func17 rfl ntmps17 rfl ?_
 intro u R
 refine Zb [0, 1] ?_
 refine Zq <| Zg <| Za Y <| Z0 <| Zx <| Zq <| Zq <| Zg <| Zm Y <| Zv (p_len_slice underlying33 Y) <| Zm Y <| Zv (p_len_slice underlying33 Y) <| Zv (p_neq_nat Y Y) <| Z0 <| Zx ?_
 refine at_if Y (fun hne => ?_) (fun hne => ?_)
 ·
  refine Zq <| Zg <| Za Y <| Z0 <| Zx <| at_ret <| Zt ?_
  refine nx_end1 rfl results17 Y (by exact ⟨eq_false (fun e => hne (by rw [e])), rfl⟩)
 ·
  have hle : a.length = b.length := by omega
  refine at_skip <| Zx <| Zq <| Zq <| Zg <| Za Y <| Z0 <| Zx <| at_block <| Zb [5, 0, 1] ?_
  refine at_loopB (e0 := [(5, _)]) (H0 := _) (n := _) (fun m e H => ∃ (i : Nat), m = a.length - i ∧ (i ≤ a.length ∧ ∀ j, j < i → a[j]? = b[j]?) ∧ e = [(5, .int .i64 (i : Int))] ∧ H = []) (by exact ⟨0, rfl, ⟨Nat.zero_le _, by intro j hj; omega⟩, rfl, rfl⟩) (by repeat (first | exact Pull.nil _ | (apply Pull.cons; (focus (repeat (first | exact One.here _ _ | apply One.there)))))) ?_
  rintro _ _ _ ⟨i, rfl, ⟨hi, hall⟩, rfl, rfl⟩
  refine Zq <| Zq <| Zg <| Zm Y <| Zm Y <| Zv (p_len_slice underlying33 Y) <| Zv (p_lss_nat Y Y) <| Z0 <| Zx ?_
  refine at_if Y (fun hlt => ?_) (fun hlt => ?_)
  ·
   obtain ⟨x, hx⟩ : ∃ x, a[i]? = some x := ⟨_, List.getElem?_eq_getElem (by omega)⟩
   obtain ⟨y, hy⟩ : ∃ y, b[i]? = some y := ⟨_, List.getElem?_eq_getElem (by omega)⟩
   obtain ⟨g1, off1, cur1, T1, zz1, rfl, hm1, hsz1, hex1⟩ := hga i x hx
   obtain ⟨g2, off2, cur2, T2, zz2, rfl, hm2, hsz2, hex2⟩ := hgb i y hy
   refine at_skip <| Zx <| Zq <| at_block <| Zq <| at_draw (n := 9) (0 :: 0 :: 3 :: 7 :: 0 :: 0 :: 48 :: 112 :: 255 :: []) 0 (by kernel_rfl) (by kernel_rfl) rfl ?_
   refine Zi 1 0 rfl (p_move Y) <| Zi 3 1 rfl (p_move Y) ?_
   (refine lin_v (D' := 7) 2 (p_indexAddr_nat underlying33 sizeOf74 Y Y ?_) ?_; (focus (omega)))
   refine lin_rm (b := g1) (x := .cells cur1 T1 zz1) (D' := 15) 3 rfl rfl rfl (by simp [hm1]) (p_load_agg (cs := #[.int .i64 x.t, .int .i64 x.k, .int .i64 x.v.a, .int .i64 x.v.b, .int .i64 x.v.c]) isAgg74 sizeOf74 Y (by omega) hex1) ?_
   refine Zi 31 4 rfl (p_move Y) <| Zi 63 5 rfl (p_move Y) ?_
   (refine lin_v (D' := 127) 6 (p_indexAddr_nat underlying33 sizeOf74 Y Y ?_) ?_; (focus (omega)))
   refine lin_rm (b := g2) (x := .cells cur2 T2 zz2) (D' := 255) 7 rfl rfl rfl (by simp [hm2]) (p_load_agg (cs := #[.int .i64 y.t, .int .i64 y.k, .int .i64 y.v.a, .int .i64 y.v.b, .int .i64 y.v.c]) isAgg74 sizeOf74 Y (by omega) hex2) ?_
   refine Zi 511 8 rfl (p_neq_row (by kernel_rfl) underlying74 (by kernel_rfl) (by decide) (by decide) (by decide) underlying3 underlying47 isAgg3 sizeOf3 isAgg47 sizeOf47 Y Y) ?_
   refine lin_nil ?_
   refine Zn [0, 1, 5, 25] ?_
   refine Zx ?_
   refine at_if Y (fun hd => ?_) (fun hd => ?_)
   ·
    refine Zq <| Zg <| Za Y <| Z0 <| Zx <| at_ret <| nx_block_ret <| Zt <| Zt <| nx_block_ret <| Zt ?_
    refine nx_end1 rfl results17 Y (by exact ⟨eq_false (fun e => by rw [e, hy] at hx; injection hx with hx; exact hd (row_eq.2 hx.symm)), rfl⟩)
   ·
    have heq : x = y := row_eq.1 (Classical.not_not.1 hd)
    refine at_skip <| nx_block_normal <| Zx <| Zg <| Zm Y <| Ya (n := 1) Y Y <| Za Y <| Z0 <| Zn [5, 0, 1] ?_
    refine nx_againB (e' := [(5, _)]) (m := _) (H' := _) (by exact ⟨i + 1, rfl, ⟨by omega, fun j hj => by rcases Nat.lt_or_ge j i with h9 | h9; exact hall j h9; obtain rfl : j = i := (by omega); rw [hx, hy]; exact congrArg some heq⟩, rfl, rfl⟩)
  ·
   refine at_exit <| Zt <| Zt <| nx_block_exit <| Zx <| Zq <| Zg <| Za Y <| Z0 <| Zx <| at_ret ?_
   refine nx_end1 rfl results17 Y (by exact ⟨eq_true' (list_eq hle (fun j hj => hall j (by omega))), rfl⟩)

theorem rp_eq {a b : RP} : a = b ↔ a.paths = b.paths ∧ (a.tb = b.tb ∧ a.cl = b.cl ∧ a.lo = b.lo ∧ a.hi = b.hi ∧ a.ct = b.ct ∧ a.fi = b.fi) ∧ a.rows = b.rows ∧ a.roots = b.roots := by
  obtain ⟨a1, a2, a3, a4, a5, a6, a7, a8, a9⟩ := a
  obtain ⟨b1, b2, b3, b4, b5, b6, b7, b8, b9⟩ := b
  simp only [RP.mk.injEq]
  constructor
  · rintro ⟨h1, h2, h3, h4, h5, h6, h7, h8, h9⟩; exact ⟨h8, ⟨h1, h2, h3, h4, h5, h6⟩, h7, h9⟩
  · rintro ⟨h8, ⟨h1, h2, h3, h4, h5, h6⟩, h7, h9⟩; exact ⟨h1, h2, h3, h4, h5, h6, h7, h8, h9⟩

theorem same2_spec {M : List Chunk} {va vb : Value} {a b : List Bs} (ha : StrsU M va a) (hb : StrsU M vb b) : DoesR Tryz.prog 55 #[va, vb] [M] (.bool (decide (a = b))) := by
 refine spec_enter func55 rfl ntmps55 rfl ?_
 intro u R
 refine Zb [0, 1] ?_
 refine Zq <| Zg <| Za Y <| Z0 <| Zx <| Zq <| Zg <| Zm Y <| Zm Y <| Zr [_, _] Y call56 Y rfl (eqs_spec ha hb) ?_
 rintro _ _ ⟨rfl, rfl⟩
 refine Za Y <| Z0 <| Zx <| at_ret ?_
 refine nx_end1 rfl results55 Y (by exact ⟨rfl, rfl⟩)

theorem eqp_spec {M : List Chunk} {va vb : Value} {a b : List (List Bs)} (ha : PathsU M va a) (hb : PathsU M vb b) : DoesR Tryz.prog 91 #[va, vb, .func (.func 55) #[] #[]] [M] (.bool (decide (a = b))) := by
 have hml : maxLen = 9223372036854775807 := rfl
 obtain ⟨pa, ca, rfl, hla, hga⟩ := ha
 obtain ⟨pb, cb, rfl, hlb, hgb⟩ := hb
 refine spec_enter func91 rfl ntmps91 rfl ?_
 intro u R
 refine Zb [0, 1, 2] ?_
 refine Zq <| Zg <| Za Y <| Z0 <| Zx <| Zq <| Zq <| Zg <| Zm Y <| Zv (p_len_slice underlying34 Y) <| Zm Y <| Zv (p_len_slice underlying34 Y) <| Zv (p_neq_nat Y Y) <| Z0 <| Zx ?_
 refine at_if Y (fun hne => ?_) (fun hne => ?_)
 ·
  refine Zq <| Zg <| Za Y <| Z0 <| Zx <| at_ret <| Zt ?_
  refine nx_end1 rfl results91 Y (by exact ⟨eq_false (fun e => hne (by rw [e])), rfl⟩)
 ·
  have hle : a.length = b.length := by omega
  refine at_skip <| Zx <| Zq <| Zq <| Zg <| Zm Y <| Zv (p_len_slice underlying34 Y) <| Zm Y <| Z0 <| Zx <| at_block <| Zb [17, 1, 2, 15, 16] ?_
  refine at_loopB (e0 := [(17, _)]) (H0 := _) (n := _) (fun m e H => ∃ (i : Nat), m = a.length - i ∧ (i ≤ a.length ∧ ∀ j, j < i → a[j]? = b[j]?) ∧ e = [(17, .int .i64 (i : Int))] ∧ H = []) (by exact ⟨0, rfl, ⟨Nat.zero_le _, by intro j hj; omega⟩, rfl, rfl⟩) (by repeat (first | exact Pull.nil _ | (apply Pull.cons; (focus (repeat (first | exact One.here _ _ | apply One.there)))))) ?_
  rintro _ _ _ ⟨i, rfl, ⟨hi, hall⟩, rfl, rfl⟩
  refine Zq <| Zg <| Zv (p_lss_nat Y Y) <| Z0 <| Zx <| Zq ?_
  refine at_if Y (fun hlt => ?_) (fun hlt => ?_)
  ·
   obtain ⟨x, hx⟩ : ∃ x, a[i]? = some x := ⟨_, List.getElem?_eq_getElem (by omega)⟩
   obtain ⟨y, hy⟩ : ∃ y, b[i]? = some y := ⟨_, List.getElem?_eq_getElem (by omega)⟩
   obtain ⟨q1, c1, hu1, g1, off1, cur1, T1, zz1, rfl, hm1, hex1⟩ := hga i x hx
   obtain ⟨q2, c2, hu2, g2, off2, cur2, T2, zz2, rfl, hm2, hex2⟩ := hgb i y hy
   refine at_skip <| Zx <| Zq <| at_block <| Zq <| Zg <| Zm Y ?_
   (refine op_v (p_indexAddr_nat1 underlying34 sizeOf35 Y Y ?_) ?_; (focus (omega)))
   refine op_rm (cs := [(g1, .cells cur1 T1 zz1)]) (by simp [hm1]) (p_load isAgg35 Y (by exact hex1)) rfl rfl ?_
   refine Za Y <| Za Y <| Z0 <| Zx <| Zq <| Zg <| Zm Y <| Zm Y ?_
   (refine op_v (p_indexAddr_nat1 underlying34 sizeOf35 Y Y ?_) ?_; (focus (omega)))
   refine op_rm (cs := [(g2, .cells cur2 T2 zz2)]) (by simp [hm2]) (p_load isAgg35 Y (by exact hex2)) rfl rfl ?_
   refine Za Y <| Z0 <| Zx <| Zq <| Zg <| Zm Y <| Zm Y <| Zm Y <| Zr [_, _] Y call55 Y rfl (same2_spec hu1 hu2) ?_
   rintro _ _ ⟨rfl, rfl⟩
   refine Zv (p_not_dec Y) <| Z0 <| Zn [1, 2, 15, 16, 17, 30] ?_
   refine Zx ?_
   refine at_if Y (fun hd => ?_) (fun hd => ?_)
   ·
    refine Zq <| Zg <| Za Y <| Z0 <| Zx <| at_ret <| nx_block_ret <| Zt <| Zt <| nx_block_ret <| Zt ?_
    refine nx_end1 rfl results91 Y (by exact ⟨eq_false (fun e => by rw [e, hy] at hx; injection hx with hx; exact hd hx.symm), rfl⟩)
   ·
    have heq : x = y := Classical.not_not.1 hd
    refine at_skip <| nx_block_normal <| Zx <| Zg <| Ya (n := 1) Y Y <| Zm Y <| Z0 <| Zn [17, 1, 2, 15, 16] ?_
    refine nx_againB (e' := [(17, _)]) (m := _) (H' := _) (by exact ⟨i + 1, rfl, ⟨by omega, fun j hj => by rcases Nat.lt_or_ge j i with h9 | h9; exact hall j h9; obtain rfl : j = i := (by omega); rw [hx, hy]; exact congrArg some heq⟩, rfl, rfl⟩)
  ·
   refine at_exit <| Zt <| Zt <| nx_block_exit <| Zx <| Zq <| Zg <| Za Y <| Z0 <| Zx <| at_ret ?_
   refine nx_end1 rfl results91 Y (by exact ⟨eq_true' (list_eq hle (fun j hj => hall j (by omega))), rfl⟩)

theorem alike_spec {M : List Chunk} {va vb : Value} {a b : List (List Bs)} (ha : PathsU M va a) (hb : PathsU M vb b) : DoesR Tryz.prog 54 #[va, vb, .func (.func 55) #[] #[]] [M] (.bool (decide (a = b))) := by
 refine spec_enter func54 rfl ntmps54 rfl ?_
 intro u R
 refine Zb [0, 1, 2] ?_
 refine Zq <| Zg <| Za Y <| Z0 <| Zx <| Zq <| Zg <| Zm Y <| Zm Y <| Zm Y <| Zr [_, _, _] Y call91 Y rfl (eqp_spec ha hb) ?_
 rintro _ _ ⟨rfl, rfl⟩
 refine Za Y <| Z0 <| Zx <| at_ret ?_
 refine nx_end1 rfl results54 Y (by exact ⟨rfl, rfl⟩)

theorem nums_spec (x : RP) (vr vp vt : Value) : DoesR Tryz.prog 53 #[.agg #[.int .i64 x.tb, .int .i64 x.cl, .int .i64 x.lo, .int .i64 x.hi, .int .i64 x.ct, .int .i64 x.fi, vr, vp, vt]] [] (.agg #[.int .i64 x.tb, .int .i64 x.cl, .int .i64 x.lo, .int .i64 x.hi, .int .i64 x.ct, .int .i64 x.fi]) := by
 refine spec_enter func53 rfl ntmps53 rfl ?_
 intro u R
 refine Zb [0] ?_
 refine Zq <| Zg <| Ze (w_box Y (cs := #[_, _, _, _, _, _, _, _, _]) rfl) ?_
 rintro _ _ ⟨b1, rfl, rfl⟩
 refine Ze (w_alloc zeroValue92 (cs := #[_, _, _, _, _, _]) rfl) ?_
 rintro _ _ ⟨b2, rfl, rfl⟩
 refine Z0 <| Zx <| Zq <| Zg <| Zh 0 underlying37 rfl rfl sizeOf3 Y <| Zl isAgg3 Y ?_
 refine Zh 1 underlying37 rfl rfl sizeOf3 Y <| Zl isAgg3 Y ?_
 refine Zh 2 underlying37 rfl rfl sizeOf3 Y <| Zl isAgg3 Y ?_
 refine Zh 3 underlying37 rfl rfl sizeOf3 Y <| Zl isAgg3 Y ?_
 refine Zh 4 underlying37 rfl rfl sizeOf3 Y <| Zl isAgg3 Y ?_
 refine Zh 5 underlying37 rfl rfl sizeOf3 Y <| Zl isAgg3 Y ?_
 refine Zv (p_build (vs := [(0, .int .i64 x.tb), (1, .int .i64 x.cl), (2, .int .i64 x.lo), (3, .int .i64 x.hi), (4, .int .i64 x.ct), (5, .int .i64 x.fi)]) (cs := #[.int .i64 x.tb, .int .i64 x.cl, .int .i64 x.lo, .int .i64 x.hi, .int .i64 x.ct, .int .i64 x.fi]) Y (run_build_array zeroValue92 underlying92 sizeOf3 (by kernel_rfl))) ?_
 refine Ze (w_store_agg sizeOf92 Y Y (by (simp [Value.oneCell']; done)) (by repeat (first | exact Upd.here _ | apply Upd.there)) (by exact (rfl : _ = (#[.int .i64 x.tb, .int .i64 x.cl, .int .i64 x.lo, .int .i64 x.hi, .int .i64 x.ct, .int .i64 x.fi] : Array Value))) (by first | rfl | (simp; done)) (by first | omega | decide | (simp; done)) (by exact free_zero _)) ?_
 rintro _ _ ⟨rfl, rfl⟩
 refine Z0 <| Zn [2] ?_
 refine Zx <| at_ret ?_
 refine nx_endc1 rfl results53 Y (by repeat (first | exact Has.here _ | apply Has.there)) (loadVar_agg isAgg92 sizeOf92 (by first | decide | exact Nat.le_refl _ | (simp; done) | (simp; omega)) (rfl)) (by exact ⟨rfl, rfl⟩)

theorem same_spec {M : List Chunk} {va vb : Value} {a b : RP} (ha : RPIn M va a) (hb : RPIn M vb b) : DoesR Tryz.prog 18 #[va, vb] [M] (.bool (decide (a = b))) := by
 obtain ⟨vr1, vp1, vt1, rfl, hR1, hP1, hT1⟩ := ha
 obtain ⟨vr2, vp2, vt2, rfl, hR2, hP2, hT2⟩ := hb
 refine spec_enter func18 rfl ntmps18 rfl ?_
 intro u R
 refine Zb [0, 1] ?_
 refine Zq <| Zg <| Ze (w_box Y (cs := #[_, _, _, _, _, _, _, _, _]) rfl) ?_
 rintro _ _ ⟨b1, rfl, rfl⟩
 refine Ze (w_box Y (cs := #[_, _, _, _, _, _, _, _, _]) rfl) ?_
 rintro _ _ ⟨b2, rfl, rfl⟩
 refine Za Y <| Z0 <| Zx <| Zq <| Zg <| Za Y <| Z0 <| Zx <| Zq <| Zg <| Zh 7 underlying37 rfl rfl sizeOf34 Y <| Zl isAgg34 Y ?_
 refine Zh 7 underlying37 rfl rfl sizeOf34 Y <| Zl isAgg34 Y ?_
 refine Zr [_, _, _] Y call54 Y rfl (alike_spec hP1 hP2) ?_
 rintro _ _ ⟨rfl, rfl⟩
 refine Za Y <| Z0 <| Zx <| Zq <| at_draw (n := 25) (0 :: 1 :: 3 :: 3 :: 15 :: 3 :: 3 :: 127 :: 255 :: 511 :: 1023 :: 2047 :: 4095 :: 2047 :: 10239 :: 32767 :: 65535 :: 131071 :: 262143 :: 524287 :: 262143 :: 1310719 :: 4194303 :: 8388607 :: 16777215 :: []) 4227216 (by kernel_rfl) (by kernel_rfl) rfl ?_
 refine Zi 1 0 rfl (p_move Y) <| Zi 3 1 rfl (p_move Y) ?_
 refine lin_split (t := 13) Y (fun h1 => ?_) (fun h1 => ?_)
 ·
  first | rw [decide_eq_true h1] | rw [h1] | skip
  refine lin_wg (D' := 7) 2 Y rfl rfl rfl (p_move Y) ?_
  refine lin_rg (D' := 15) 3 Y rfl rfl rfl (by repeat (first | exact Has.here _ | apply Has.there)) (p_load_agg (cs := #[_, _, _, _, _, _, _, _, _]) isAgg37 sizeOf37 Y (by first | omega | decide | (simp; done)) (by rfl)) ?_
  refine lin_wg (D' := 47) 5 Y rfl rfl rfl (p_move Y) ?_
  refine lin_rg (D' := 111) 6 Y rfl rfl rfl (by repeat (first | exact Has.here _ | apply Has.there)) (p_load_agg (cs := #[_, _, _, _, _, _, _, _, _]) isAgg37 sizeOf37 Y (by first | omega | decide | (simp; done)) (by rfl)) ?_
  refine Zz (l := [4]) ?_
  refine Zy 15 127 [6, 3] [true, false] [(6, (_, _))] rfl Y rfl rfl rfl rfl (Zu [_] Y call53 Y rfl (nums_spec a vr1 vp1 vt1)) ?hk_1 (fun _ _ h => h.elim) ?hl_1
  case hk_1 =>
   rintro _ _ ⟨rfl, rfl⟩
   refine ⟨Zk (keep_nil), ?_⟩
   refine Zz (l := [7]) ?_
   refine Zy 127 255 [6] [false] [] rfl Y rfl rfl rfl rfl (Zu [_] Y call53 Y rfl (nums_spec b vr2 vp2 vt2)) ?hk_2 (fun _ _ h => h.elim) ?hl_2
   case hk_2 =>
    rintro _ _ ⟨rfl, rfl⟩
    refine ⟨keep_nil, ?_⟩
    refine lin_wg (D' := 511) 8 Y rfl rfl rfl (p_eql_arr6 (by kernel_rfl) underlying92 underlying3 isAgg3 sizeOf3 Y Y) ?_
    refine Zi 1023 9 rfl (p_pick_t Y Y) <| Zi 2047 10 rfl (p_move Y) ?_
    refine lin_split (t := 22) Y (fun h2 => ?_) (fun h2 => ?_)
    ·
     first | rw [decide_eq_true h2] | rw [h2] | skip
     refine lin_wg (D' := 4095) 11 Y rfl rfl rfl (p_fieldAddr0 (off := 6) underlying37 rfl rfl sizeOf33 Y) ?_
     refine lin_rg (D' := 8191) 12 Y rfl rfl rfl (by repeat (first | exact Has.here _ | apply Has.there)) (p_load isAgg33 Y (by rfl)) ?_
     refine lin_wg (D' := 16383) 13 Y rfl rfl rfl (p_fieldAddr0 (off := 6) underlying37 rfl rfl sizeOf33 Y) ?_
     refine lin_rg (D' := 32767) 14 Y rfl rfl rfl (by repeat (first | exact Has.here _ | apply Has.there)) (p_load isAgg33 Y (by rfl)) ?_
     refine Zz (l := [15]) ?_
     refine Zy 32767 65535 [14, 12] [false, false] [] rfl Y rfl rfl rfl rfl (Zu [_, _] Y call57 Y rfl (eqr_spec hR1 hR2)) ?hk_3 (fun _ _ h => h.elim) ?hl_3
     case hk_3 =>
      rintro _ _ ⟨rfl, rfl⟩
      refine ⟨keep_nil, ?_⟩
      refine Zi 131071 16 rfl (p_pick_t Y Y) <| Zi 262143 17 rfl (p_move Y) ?_
      refine lin_split (t := 29) Y (fun h3 => ?_) (fun h3 => ?_)
      ·
       first | rw [decide_eq_true h3] | rw [h3] | skip
       refine lin_wg (D' := 524287) 18 Y rfl rfl rfl (p_fieldAddr0 (off := 8) underlying37 rfl rfl sizeOf35 Y) ?_
       refine lin_rg (D' := 1048575) 19 Y rfl rfl rfl (by repeat (first | exact Has.here _ | apply Has.there)) (p_load isAgg35 Y (by rfl)) ?_
       refine lin_wg (D' := 2097151) 20 Y rfl rfl rfl (p_fieldAddr0 (off := 8) underlying37 rfl rfl sizeOf35 Y) ?_
       refine lin_rg (D' := 4194303) 21 Y rfl rfl rfl (by repeat (first | exact Has.here _ | apply Has.there)) (p_load isAgg35 Y (by rfl)) ?_
       refine Zz (l := [22]) ?_
       refine Zy 4194303 8388607 [21, 19] [false, false] [] rfl Y rfl rfl rfl rfl (Zu [_, _] Y call56 Y rfl (eqs_spec hT1 hT2)) ?hk_4 (fun _ _ h => h.elim) ?hl_4
       case hk_4 =>
        rintro _ _ ⟨rfl, rfl⟩
        refine ⟨keep_nil, ?_⟩
        refine Zi 16777215 23 rfl (p_pick_t Y Y) <| Zi 33554431 24 rfl (p_assign Y) <| lin_nil ?_
        refine Zn [4] ?_
        refine Zx <| at_ret ?_
        refine nx_end1 rfl results18 Y (by exact ⟨by exact dec_bool ⟨fun h9 => rp_eq.2 ⟨h1, h2, h3, h9⟩, fun h9 => (rp_eq.1 h9).2.2.2⟩, rfl⟩)
       case hl_4 =>
        exact each_nil
      ·
       first | rw [decide_eq_false h3] | rw [h3] | skip
       refine Yk 524287 18 rfl <| Yk 1048575 19 rfl <| Yk 2097151 20 rfl <| Yk 4194303 21 rfl <| Yk 8388607 22 rfl <| Zi 16777215 23 rfl (p_pick_f Y Y) <| Zi 33554431 24 rfl (p_assign Y) <| lin_nil ?_
       refine Zn [4] ?_
       refine Zx <| at_ret ?_
       refine nx_end1 rfl results18 Y (by exact ⟨by exact eq_false (fun e => h3 (rp_eq.1 e).2.2.1), rfl⟩)
     case hl_3 =>
      exact each_nil
    ·
     first | rw [decide_eq_false h2] | rw [h2] | skip
     refine Yk 4095 11 rfl <| Yk 8191 12 rfl <| Yk 16383 13 rfl <| Yk 32767 14 rfl <| Yk 65535 15 rfl <| Zi 131071 16 rfl (p_pick_f Y Y) <| Zi 262143 17 rfl (p_move Y) <| Yk 524287 18 rfl <| Yk 1048575 19 rfl <| Yk 2097151 20 rfl <| Yk 4194303 21 rfl <| Yk 8388607 22 rfl <| Zi 16777215 23 rfl (p_pick_f Y Y) <| Zi 33554431 24 rfl (p_assign Y) <| lin_nil ?_
     refine Zn [4] ?_
     refine Zx <| at_ret ?_
     refine nx_end1 rfl results18 Y (by exact ⟨by exact eq_false (fun e => h2 (rp_eq.1 e).2.1), rfl⟩)
   case hl_2 =>
    exact each_nil
  case hl_1 =>
   exact each_nil
 ·
  first | rw [decide_eq_false h1] | rw [h1] | skip
  refine Yk 7 2 rfl <| Yk 15 3 rfl <| Yk 31 4 rfl <| Yk 63 5 rfl <| Yk 127 6 rfl <| Yk 255 7 rfl <| Yk 511 8 rfl <| Zi 1023 9 rfl (p_pick_f Y Y) <| Zi 2047 10 rfl (p_move Y) <| Yk 4095 11 rfl <| Yk 8191 12 rfl <| Yk 16383 13 rfl <| Yk 32767 14 rfl <| Yk 65535 15 rfl <| Zi 131071 16 rfl (p_pick_f Y Y) <| Zi 262143 17 rfl (p_move Y) <| Yk 524287 18 rfl <| Yk 1048575 19 rfl <| Yk 2097151 20 rfl <| Yk 4194303 21 rfl <| Yk 8388607 22 rfl <| Zi 16777215 23 rfl (p_pick_f Y Y) <| Zi 33554431 24 rfl (p_assign Y) <| lin_nil ?_
  refine Zn [4] ?_
  refine Zx <| at_ret ?_
  refine nx_end1 rfl results18 Y (by exact ⟨by exact eq_false (fun e => h1 (rp_eq.1 e).1), rfl⟩)

end Go.Proofs.YtjeepldonhgohaaGreatDoor
