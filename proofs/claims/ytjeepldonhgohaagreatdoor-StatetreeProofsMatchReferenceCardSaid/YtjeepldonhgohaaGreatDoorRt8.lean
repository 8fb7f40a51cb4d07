/- The references: Left, Leaf, Node, Root; Encode; Order, Entries, Summaries. -/
/- The reference of layer 2: Verify. -/
import Derived.Test.YtjeepldonhgohaaGreatDoorEz
import Derived.Test.YtjeepldonhgohaaGreatDoorTr13
import Derived.Test.YtjeepldonhgohaaGreatDoorRw1
import Derived.Test.YtjeepldonhgohaaGreatDoorTr8

namespace Go.Proofs.YtjeepldonhgohaaGreatDoor
open Go.Proofs.Tryz
open Go Go.RowKit Gw
set_option linter.unusedVariables false
set_option linter.unusedSimpArgs false
set_option maxRecDepth 100000
attribute [local irreducible] Gw.At Gw.Nx Gw.Ops
theorem r2_left (n : Nat) (h1 : 2 ≤ n) (h2 : n ≤ 1000000000000) : DoesR Tryz.prog 82 #[.int .i64 (n : Int)] [] (.int .i64 ((leftN n : Nat) : Int)) := by
 refine spec_enter func82 rfl ntmps82 rfl ?_
 intro u R
 refine Zb [0] ?_
 refine Zq <| Zg <| Za Y <| Z0 <| Zx <| Zq <| Zg <| Za Y <| Z0 <| Zx <| Zq <| at_block <| Zb [3, 0] ?_
 refine at_loopB (e0 := [(3, _)]) (H0 := _) (n := _) (fun m e H => ∃ (x9 k : Nat), m = n - k ∧ (k = 2 ^ x9 ∧ 0 < k ∧ k < n) ∧ e = [(3, .int .i64 (k : Int))] ∧ H = []) (by exact ⟨0, 1, rfl, ⟨rfl, by omega, by omega⟩, rfl, rfl⟩) (by repeat (first | exact Pull.nil _ | (apply Pull.cons; (focus (repeat (first | exact One.here _ _ | apply One.there)))))) ?_
 rintro _ _ _ ⟨x9, k, rfl, ⟨he, hk0, hk⟩, rfl, rfl⟩
 refine Zq <| Zq <| Zg <| Zm Y <| Zm Y <| Zm Y ?_
 (refine op_v (p_sub_nat Y Y ?_ ?_) ?_; (focus (first | omega | (simp; omega))); (focus (first | omega | (simp; omega))))
 refine Zv (p_lss_nat Y Y) <| Z0 <| Zx ?_
 refine at_if Y (fun hlt => ?_) (fun hlt => ?_)
 ·
  refine at_skip <| Zx <| at_block <| Zg <| Zm Y ?_
  (refine op_v (p_mul_nat (m := 2) Y Y ?_) ?_; (focus (first | omega | (simp; omega))))
  refine Za Y <| Z0 <| nx_block_normal <| Zn [3, 0] ?_
  refine nx_againB (e' := [(3, _)]) (m := _) (H' := _) (by exact ⟨x9 + 1, 2 * k, rfl, ⟨by rw [Nat.pow_succ, he]; omega, by omega, by omega⟩, rfl, rfl⟩)
 ·
  have hl : leftN n = k := by rw [he]; exact left_of (by rw [← he]; exact hk) (by rw [Nat.pow_succ, ← he]; omega)
  refine at_exit <| Zt <| Zt <| nx_block_exit <| Zx <| Zq <| Zg <| Zm Y <| Za Y <| Z0 <| Zx <| at_ret ?_
  refine nx_end1 rfl results82 Y (by exact ⟨by rw [hl], rfl⟩)

theorem r2_leaf (s : Bs) (hs : s.length ≤ 140737488354000) : DoesR Tryz.prog 81 #[.string (str s)] [] (.string (str (leafS s))) := by
 refine spec_enter func81 rfl ntmps81 rfl ?_
 intro u R
 refine Zb [0] ?_
 refine Zq <| Zg <| Za Y <| Z0 <| Zx <| Zq <| Zg <| Zm Y ?_
 (refine op_v (p_add_str Y Y ?_) ?_; (focus ((rw [str_size]; show 1 + _ ≤ _; omega))))
 refine Zr [_] Y call69 Y rfl ((str_app [0] s) ▸ rsum_spec ([0] ++ s) (by rw [List.length_append]; simp; omega)) ?_
 rintro _ _ ⟨rfl, rfl⟩
 refine Za Y <| Z0 <| Zx <| at_ret ?_
 refine nx_end1 rfl results81 Y (by exact ⟨rfl, rfl⟩)

theorem r2_node (a b : Bs) (ha : a.length ≤ 1000000000) (hb : b.length ≤ 1000000000) : DoesR Tryz.prog 83 #[.string (str a), .string (str b)] [] (.string (str (nodeS a b))) := by
 refine spec_enter func83 rfl ntmps83 rfl ?_
 intro u R
 refine Zb [0, 1] ?_
 refine Zq <| Zg <| Za Y <| Z0 <| Zx <| Zq <| Zg <| Zm Y ?_
 (refine op_v (p_add_str Y Y ?_) ?_; (focus ((show 1 + _ ≤ _; rw [str_size]; omega))))
 refine Zm Y ?_
 (refine op_v (p_add_str Y Y ?_) ?_; (focus ((show (str [1] ++ str a).size + (str b).size ≤ _; rw [str_app, str_size, str_size, List.length_append]; simp; omega))))
 refine Zr [_] Y call69 Y rfl ((by have h := rsum_spec ([1] ++ a ++ b) (by rw [List.length_append, List.length_append]; simp; omega); rw [← str_app, ← str_app] at h; exact h : DoesR Tryz.prog 69 #[.string (str [1] ++ str a ++ str b)] [] (.string (str (sha ([1] ++ a ++ b)))))) ?_
 rintro _ _ ⟨rfl, rfl⟩
 refine Za Y <| Z0 <| Zx <| at_ret ?_
 refine nx_end1 rfl results83 Y (by exact ⟨rfl, rfl⟩)

theorem r2_root_step (n : Nat) (IH : ∀ {M : List Chunk} {v : Value} {l : List Bs}, l.length < n → StrsU M v l → l.length ≤ 1000000 → (∀ s ∈ l, s.length ≤ 140737488354000) → DoesR Tryz.prog 35 #[v] [M] (.string (str (rootT l)))) {M : List Chunk} {v : Value} {ls : List Bs} (hl9 : ls.length = n) (hv : StrsU M v ls) (hn : ls.length ≤ 1000000) (hs : ∀ s ∈ ls, s.length ≤ 140737488354000) : DoesR Tryz.prog 35 #[v] [M] (.string (str (rootT ls))) := by
 have hml : maxLen = 9223372036854775807 := rfl
 obtain ⟨p, cap, rfl, hl, hg⟩ := id hv
 refine spec_enter func35 rfl ntmps35 rfl ?_
 intro u R
 refine Zb [0] ?_
 refine Zq <| Zg <| Za Y <| Z0 <| Zx <| Zq <| Zq <| Zg <| Zm Y <| Zv (p_len_slice underlying35 Y) <| Zv (p_eql_nat (n := 0) Y Y) <| Z0 <| Zx ?_
 refine at_if Y (fun h0 => ?_) (fun h0 => ?_)
 ·
  have e1 : ls = [] := List.eq_nil_of_length_eq_zero h0
  refine Zq <| Zg <| Zr [_] Y call69 Y rfl (rsum_spec [] (by simp)) ?_
  rintro _ _ ⟨rfl, rfl⟩
  refine Za Y <| Z0 <| Zx <| at_ret <| Zt ?_
  refine nx_end1 rfl results35 Y (by exact ⟨by rw [e1, root_nil], rfl⟩)
 ·
  refine at_skip <| Zx <| Zq <| Zq <| Zg <| Zm Y <| Zv (p_len_slice underlying35 Y) <| Zv (p_eql_nat (n := 1) Y Y) <| Z0 <| Zx ?_
  refine at_if Y (fun h1 => ?_) (fun h1 => ?_)
  ·
   obtain ⟨x, rfl⟩ : ∃ x, ls = [x] := by
     match ls, h1 with
     | [x], _ => exact ⟨x, rfl⟩
   obtain ⟨g, off, cur, T, zz, rfl, hm9, hex9⟩ := hg 0 x rfl
   have hsx := hs x (by simp)
   refine Zq <| Zg <| Zm Y ?_
   (refine op_v (p_indexAddr_nat1 (j := 0) underlying35 sizeOf9 Y Y ?_) ?_; (focus (first | omega | decide | (simp; done))))
   refine op_rm (cs := [(g, .cells cur T zz)]) (by simp [hm9]) (p_load isAgg9 Y (by exact hex9)) rfl rfl ?_
   refine Zr [_] Y call81 Y rfl (r2_leaf x hsx) ?_
   rintro _ _ ⟨rfl, rfl⟩
   refine Za Y <| Z0 <| Zx <| at_ret <| Zt ?_
   refine nx_end1 rfl results35 Y (by exact ⟨by rw [root_one], rfl⟩)
  ·
   have h9 : 2 ≤ ls.length := by omega
   have hk1 := left_lt h9
   have hk2 := left_pos ls.length
   have hlt2 : (ls.take (leftN ls.length)).length = leftN ls.length := by rw [List.length_take]; omega
   obtain ⟨g8, off8, cur8, T8, zz8, rfl, hm8, hc8⟩ := hg 0 _ (List.getElem?_eq_getElem (by omega))
   have hvt := hv.take (leftN ls.length) (by omega)
   have hvd := hv.drop (leftN ls.length) hk1
   refine at_skip <| Zx <| Zq <| Zg <| Zm Y <| Zv (p_len_slice underlying35 Y) <| Zr [_] Y call82 Y rfl (r2_left ls.length h9 (by omega)) ?_
   rintro _ _ ⟨rfl, rfl⟩
   refine Za Y <| Z0 <| Zx <| Zq <| at_draw (n := 10) (0 :: 0 :: 3 :: 7 :: 0 :: 0 :: 48 :: 127 :: 255 :: 511 :: []) 392 (by kernel_rfl) (by kernel_rfl) rfl ?_
   refine Zi 1 0 rfl (p_move Y) <| Zi 3 1 rfl (p_move Y) ?_
   (refine lin_v (D' := 7) 2 (p_slice_slice_to underlying35 sizeOf9 Y Y ?_) ?_; (focus (omega)))
   refine Zi 23 4 rfl (p_move Y) <| Zi 55 5 rfl (p_move Y) ?_
   (refine lin_v (D' := 119) 6 (p_slice_slice_from1 underlying35 sizeOf9 Y Y ?_ ?_) ?_; (focus (omega)); (focus (omega)))
   refine Zz (l := [3]) ?_
   refine Zy 7 127 [] [] [] rfl Y rfl rfl rfl rfl (Zu [_] Y call35 Y rfl (IH (l := ls.take (leftN ls.length)) (by rw [hlt2]; omega) (by exact hvt) (by rw [hlt2]; omega) (fun s h => hs s (List.mem_of_mem_take h)))) ?hk_3 (fun _ _ h => h.elim) ?hl_3
   case hk_3 =>
    rintro _ _ ⟨rfl, rfl⟩
    refine ⟨keep_nil, ?_⟩
    refine Zz (l := [7]) ?_
    refine Zy 127 255 [] [] [] rfl Y rfl rfl rfl rfl (Zu [_] Y call35 Y rfl (IH (l := ls.drop (leftN ls.length)) (by rw [List.length_drop]; omega) (by exact hvd) (by rw [List.length_drop]; omega) (fun s h => hs s (List.mem_of_mem_drop h)))) ?hk_4 (fun _ _ h => h.elim) ?hl_4
    case hk_4 =>
     rintro _ _ ⟨rfl, rfl⟩
     refine ⟨keep_nil, ?_⟩
     refine Zz (l := [8]) ?_
     refine Zy 255 511 [] [] [] rfl Y rfl rfl rfl rfl (Zu [_, _] Y call83 Y rfl (r2_node _ _ (by rw [root_len]; omega) (by rw [root_len]; omega))) ?hk_5 (fun _ _ h => h.elim) ?hl_5
     case hk_5 =>
      rintro _ _ ⟨rfl, rfl⟩
      refine ⟨keep_nil, ?_⟩
      refine Zi 1023 9 rfl (p_assign Y) <| lin_nil ?_
      refine Zn [2] ?_
      refine Zx <| at_ret ?_
      refine nx_end1 rfl results35 Y (by exact ⟨by rw [root_more h9], rfl⟩)
     case hl_5 =>
      exact each_nil
    case hl_4 =>
     exact each_nil
   case hl_3 =>
    exact each_nil

theorem r2_root : ∀ (n : Nat) {M : List Chunk} {v : Value} {ls : List Bs}, ls.length ≤ n → StrsU M v ls → ls.length ≤ 1000000 → (∀ s ∈ ls, s.length ≤ 140737488354000) → DoesR Tryz.prog 35 #[v] [M] (.string (str (rootT ls)))
  | 0, _, _, ls, h, hv, hn, hs => r2_root_step ls.length (fun h9 => absurd h9 (by omega)) rfl hv hn hs
  | n + 1, _, _, ls, h, hv, hn, hs => r2_root_step ls.length (fun h9 hv2 hn2 hs2 => r2_root n (by omega) hv2 hn2 hs2) rfl hv hn hs

theorem r3_put (g off cap : Nat) (cur : Array Value) (T : TypeId) (z : Nat × Nat) (ls : List Int) (hin : IntsAt cur off ls) (hn : ls.length ≤ 1073741824) (hr : ∀ n ∈ ls, -4611686018427387903 ≤ n ∧ n ≤ 4611686018427387903) :
    DoesR Tryz.prog 101 #[.slice (some ⟨g, off, none⟩) ls.length cap] [[(g, .cells cur T z)]] (.string (str (putAll ls))) := by
 have hml : maxLen = 9223372036854775807 := rfl
 refine spec_enter func101 rfl ntmps101 rfl ?_
 intro u R
 refine Zb [0] ?_
 refine Zq <| Zg <| Za Y <| Z0 <| Zx <| Zq <| Zg <| Za Y <| Z0 <| Zx <| Zq <| Zq <| Zg <| Za Y <| Z0 <| Zx <| at_block <| Zb [3, 4, 0] ?_
 refine at_loopB (e0 := [(3, _), (4, _)]) (H0 := _) (n := _) (fun m e H => ∃ (i : Nat), m = ls.length - i ∧ (i ≤ ls.length) ∧ e = [(3, .string (str (putAll (ls.take i)))), (4, .int .i64 (i : Int))] ∧ H = []) (by exact ⟨0, rfl, Nat.zero_le _, rfl, rfl⟩) (by repeat (first | exact Pull.nil _ | (apply Pull.cons; (focus (repeat (first | exact One.here _ _ | apply One.there)))))) ?_
 rintro _ _ _ ⟨i, rfl, hi, rfl, rfl⟩
 refine Zq <| Zq <| Zg <| Zm Y <| Zm Y <| Zv (p_len_slice underlying61 Y) <| Zv (p_lss_nat Y Y) <| Z0 <| Zx ?_
 refine at_if Y (fun hlt => ?_) (fun hlt => ?_)
 ·
  obtain ⟨x, hx⟩ : ∃ x, ls[i]? = some x := ⟨_, List.getElem?_eq_getElem hlt⟩
  have hxr := hr x (List.mem_of_getElem? hx)
  have htk : ls.take (i + 1) = ls.take i ++ [x] := by rw [List.take_add_one, hx]; rfl
  have hpl := putAll_len (ls.take i) (fun m hm => hr m (List.mem_of_mem_take hm))
  have htl : (ls.take i).length ≤ i := List.length_take_le ..
  have hel := encI_len x hxr.1 hxr.2
  refine at_skip <| Zx <| Zq <| at_block <| Zq <| Zg <| Zm Y <| Zm Y ?_
  (refine op_v (p_indexAddr_nat1 underlying61 sizeOf3 Y Y ?_) ?_; (focus (omega)))
  refine Zl isAgg3 Y (hv := by exact hin i x hx) ?_
  refine Zr [_] Y call64 Y rfl (rputIntZ x hxr.1 hxr.2) ?_
  rintro _ _ ⟨rfl, rfl⟩
  refine Zm Y <| Zd Y rfl <| Zd Y rfl <| Za Y <| Za Y <| Z0 <| Zn [0, 3, 4, 5] ?_
  refine Zx <| Zg <| Zm Y <| Zm Y ?_
  (refine op_v (p_add_str Y Y ?_) ?_; (focus (rw [str_size, str_size]; omega)))
  refine Za Y <| Z0 <| nx_block_normal <| Zx <| Zg <| Zm Y <| Ya (n := 1) Y Y <| Za Y <| Z0 <| Zn [3, 4, 0] ?_
  refine nx_againB (e' := [(3, _), (4, _)]) (m := _) (H' := _) (by exact ⟨i + 1, rfl, by omega, by rw [htk, putAll_snoc, ← str_app], rfl⟩)
 ·
  refine at_exit <| Zt <| Zt <| nx_block_exit <| Zx <| Zq <| Zg <| Zm Y <| Za Y <| Z0 <| Zx <| at_ret ?_
  refine nx_end1 rfl results101 Y (by exact ⟨by rw [List.take_of_length_le (by omega)], rfl⟩)

theorem ints_five (a b c d e : Int) : IntsAt #[.int .i64 a, .int .i64 b, .int .i64 c, .int .i64 d, .int .i64 e] 0 [a, b, c, d, e] := by
  intro i n h
  rcases i with _ | _ | _ | _ | _ | i
  all_goals first | (simp at h; subst h; rfl) | (simp at h)
theorem row_num5 {r : RowM} (h : r.ok) : ∀ n ∈ [r.t, r.k, r.v.a, r.v.b, r.v.c], -4611686018427387903 ≤ n ∧ n ≤ 4611686018427387903 := by
  intro n hn
  have h1 := (row_num h).1
  have h2 := (row_num h).2
  simp only [List.mem_cons, List.not_mem_nil, or_false] at hn h1 h2
  rcases hn with rfl | rfl | rfl | rfl | rfl
  · exact h1 _ (.inl rfl)
  · exact h1 _ (.inr rfl)
  · exact h2 _ (.inl rfl)
  · exact h2 _ (.inr (.inl rfl))
  · exact h2 _ (.inr (.inr rfl))
theorem encRow_five (r : RowM) : putAll [r.t, r.k, r.v.a, r.v.b, r.v.c] = encRow r := by simp [encRow, putAll]

theorem r3_encode (r : RowM) (hr : r.ok) : DoesR Tryz.prog 65 #[.agg #[.int .i64 r.t, .int .i64 r.k, .int .i64 r.v.a, .int .i64 r.v.b, .int .i64 r.v.c]] [] (.tuple #[.string (str (encRow r)), .int .i64 0]) := by
 refine spec_enter func65 rfl ntmps65 rfl ?_
 intro u R
 refine Zb [0] ?_
 refine Zq <| Zg <| Ze (w_box Y (cs := #[_, _, _, _, _]) rfl) ?_
 rintro _ _ ⟨b1, rfl, rfl⟩
 refine Za Y <| Za Y <| Z0 <| Zx <| Zq <| Zq <| Zg <| Zo (by repeat (first | exact Has.here _ | apply Has.there)) (p_load_agg (cs := #[_, _, _, _, _]) isAgg74 sizeOf74 Y (by first | decide | exact Nat.le_refl _ | (simp; done) | (simp; omega)) (by rfl)) ?_
 refine Zr [_] Y call90 Y rfl (r3_valid r) ?_
 rintro _ _ ⟨rfl, rfl⟩
 rw [decide_eq_true hr]
 refine Zv (p_not Y) <| Z0 <| Zx ?_
 refine at_if_bool Y (fun hv => ?_) (fun hv => ?_)
 ·
  cases hv
 ·
  refine at_skip <| Zx <| Zq <| Zg <| Zh 0 underlying74 rfl rfl sizeOf3 Y <| Zl isAgg3 Y ?_
  refine Zh 1 underlying74 rfl rfl sizeOf3 Y <| Zl isAgg3 Y ?_
  refine Zh 2 underlying74 rfl rfl sizeOf47 Y ?_
  (refine op_v (p_indexAddr_arr (j := 0) underlying47 sizeOf3 Y Y ?_) ?_; (focus (first | omega | decide | (simp; done))))
  refine Zl isAgg3 Y ?_
  refine Zh 2 underlying74 rfl rfl sizeOf47 Y ?_
  (refine op_v (p_indexAddr_arr (j := 1) underlying47 sizeOf3 Y Y ?_) ?_; (focus (first | omega | decide | (simp; done))))
  refine Zl isAgg3 Y ?_
  refine Zh 2 underlying74 rfl rfl sizeOf47 Y ?_
  (refine op_v (p_indexAddr_arr (j := 2) underlying47 sizeOf3 Y Y ?_) ?_; (focus (first | omega | decide | (simp; done))))
  refine Zl isAgg3 Y ?_
  refine Ze (w_buildSlice (vs := [_, _, _, _, _]) (cs := [_, _, _, _, _]) underlying61 sizeOf3 zeroValue3 Y rfl rfl rfl rfl rfl) ?_
  rintro _ _ ⟨gb, rfl, rfl⟩
  refine Zr [_] Y call101 Y rfl (r3_put gb 0 5 _ _ _ [r.t, r.k, r.v.a, r.v.b, r.v.c] (ints_five r.t r.k r.v.a r.v.b r.v.c) (by simp) (row_num5 hr)) ?_
  rintro _ _ ⟨rfl, rfl⟩
  refine Za Y <| Za Y <| Z0 <| Zn [2, 3] ?_
  refine Zx <| at_ret ?_
  refine nx_end2 rfl results65 Y Y (by exact ⟨by rw [encRow_five], rfl⟩)

end Go.Proofs.YtjeepldonhgohaaGreatDoor


namespace Go.Proofs.YtjeepldonhgohaaGreatDoor
open Go.Proofs.Tryz
open Go Go.RowKit Gw
set_option linter.unusedVariables false
set_option linter.unusedSimpArgs false
set_option maxRecDepth 100000
attribute [local irreducible] Gw.At Gw.Nx Gw.Ops
theorem odd_t {s : Bs} (h : ¬ s.length = 32) : oddS s = true := by unfold oddS; simp [h]
theorem odd_f {s : Bs} (h : s.length = 32) : oddS s = false := by unfold oddS; simp [h]
theorem rev_lastP {l : List Bs} {x : Bs} {m : Nat} (hm : l.length = m + 1) (h : l[m]? = some x) : l.reverse = x :: (l.take m).reverse := by
  rw [← rev_take h, ← hm, List.take_length]
theorem odd_allP {pf : List Bs} (h : pf.any oddS = false) : ∀ y ∈ pf, y.length = 32 := fun y hy => by
  have := List.any_eq_false.1 h y hy
  unfold oddS at this
  simpa using this
def ValIs (s : Bs) (n i : Nat) (ls : List Bs) (w : Bs) (b : Bool) : Prop := w.length ≤ 32 ∧ valR s n i ls.reverse = if b = true then some w else none

theorem r2_digests {M : List Chunk} {v : Value} {ls : List Bs} (hv : StrsU M v ls) : DoesR Tryz.prog 102 #[v] [M] (.bool (!(ls.any oddS))) := by
 have hml : maxLen = 9223372036854775807 := rfl
 obtain ⟨p, cap, rfl, hl, hg⟩ := id hv
 refine spec_enter func102 rfl ntmps102 rfl ?_
 intro u R
 refine Zb [0] ?_
 refine Zq <| Zg <| Za Y <| Z0 <| Zx <| Zq <| Zq <| Zg <| Za Y <| Z0 <| Zx <| at_block <| Zb [3, 0] ?_
 refine at_loopB (e0 := [(3, _)]) (H0 := _) (n := _) (fun m e H => ∃ (i : Nat), m = ls.length - i ∧ (i ≤ ls.length ∧ (ls.take i).any oddS = false) ∧ e = [(3, .int .i64 (i : Int))] ∧ H = []) (by exact ⟨0, rfl, ⟨Nat.zero_le _, by simp⟩, rfl, rfl⟩) (by repeat (first | exact Pull.nil _ | (apply Pull.cons; (focus (repeat (first | exact One.here _ _ | apply One.there)))))) ?_
 rintro _ _ _ ⟨i, rfl, ⟨hi, hall⟩, rfl, rfl⟩
 refine Zq <| Zq <| Zg <| Zm Y <| Zm Y <| Zv (p_len_slice underlying35 Y) <| Zv (p_lss_nat Y Y) <| Z0 <| Zx ?_
 refine at_if Y (fun hlt => ?_) (fun hlt => ?_)
 ·
  obtain ⟨x, hx⟩ : ∃ x, ls[i]? = some x := ⟨_, List.getElem?_eq_getElem hlt⟩
  obtain ⟨g, off, cur, T, zz, rfl, hm9, hex9⟩ := hg i x hx
  have hxs := str_size x
  refine at_skip <| Zx <| Zq <| at_block <| Zq <| Zg <| Zm Y <| Zm Y ?_
  (refine op_v (p_indexAddr_nat1 underlying35 sizeOf9 Y Y ?_) ?_; (focus (first | omega | decide | (simp; done))))
  refine op_rm (cs := [(g, .cells cur T zz)]) (by simp [hm9]) (p_load isAgg9 Y (by exact hex9)) rfl rfl ?_
  refine Zv (p_len_str underlying9 Y) <| Zv (p_neq_nat (n := 32) Y Y) <| Z0 <| Zx ?_
  refine at_if Y (fun hd0 => ?_) (fun hd0 => ?_)
  ·
   refine Zq <| Zg <| Za Y <| Z0 <| Zx <| at_ret <| nx_block_ret <| Zt <| Zt <| nx_block_ret <| Zt ?_
   refine nx_end1 rfl results102 Y (by exact ⟨by rw [any_atG oddS ls i x hx (odd_t (by omega))]; rfl, rfl⟩)
  ·
   have hd : x.length = 32 := by omega
   refine at_skip <| nx_block_normal <| Zx <| Zg <| Zm Y <| Ya (n := 1) Y Y <| Za Y <| Z0 <| Zn [3, 0] ?_
   refine nx_againB (e' := [(3, _)]) (m := _) (H' := _) (by exact ⟨i + 1, rfl, ⟨by omega, by rw [any_takeG _ _ _ _ hx, hall, odd_f hd]; rfl⟩, rfl, rfl⟩)
 ·
  rw [List.take_of_length_le (by omega)] at hall
  refine at_exit <| Zt <| Zt <| nx_block_exit <| Zx <| Zq <| Zg <| Za Y <| Z0 <| Zx <| at_ret ?_
  refine nx_end1 rfl results102 Y (by exact ⟨by rw [hall]; rfl, rfl⟩)

theorem r2_value_step (m : Nat) (s : Bs) (hsl : s.length ≤ 140737488354000) (IH : ∀ {M : List Chunk} {v : Value} {ls : List Bs} (n i : Nat), ls.length < m → StrsU M v ls → 1 ≤ n → n ≤ 1000000 → i ≤ 1000000 → ls.length ≤ 1000000 → (∀ s ∈ ls, s.length = 32) → Does Tryz.prog 103 #[.int .i64 (n : Int), .int .i64 (i : Int), .string (str s), v] [M] (fun r H' => ∃ w b, r = .tuple #[.string (str w), .bool b] ∧ ValIs s n i ls w b ∧ H' = [M])) {M : List Chunk} {v : Value} {ls : List Bs} (n i : Nat) (hl9 : ls.length = m) (hv : StrsU M v ls) (hn1 : 1 ≤ n) (hn2 : n ≤ 1000000) (hi2 : i ≤ 1000000) (hmm : ls.length ≤ 1000000) (hs32 : ∀ s ∈ ls, s.length = 32) : Does Tryz.prog 103 #[.int .i64 (n : Int), .int .i64 (i : Int), .string (str s), v] [M] (fun r H' => ∃ w b, r = .tuple #[.string (str w), .bool b] ∧ ValIs s n i ls w b ∧ H' = [M]) := by
 have hml : maxLen = 9223372036854775807 := rfl
 obtain ⟨p, cap, rfl, hl, hg⟩ := id hv
 refine spec_enter func103 rfl ntmps103 rfl ?_
 intro u R
 refine Zb [0, 1, 2, 3] ?_
 refine Zq <| Zg <| Za Y <| Za Y <| Z0 <| Zx <| Zq <| Zg <| Zm Y <| Zv (p_len_slice underlying35 Y) ?_
 (refine op_v (p_sub Y Y (IntWalk.i64_in _ ?_)) ?_; (focus (omega)))
 refine Za Y <| Z0 <| Zx <| Zq <| Zq <| Zg <| Zm Y <| Zv (p_eql_nat (n := 1) Y Y) <| Z0 <| Zx ?_
 refine at_if Y (fun h1 => ?_) (fun h1 => ?_)
 ·
  refine Zq <| Zg <| Zm Y <| Zr [_] Y call81 Y rfl (r2_leaf s hsl) ?_
  rintro _ _ ⟨rfl, rfl⟩
  refine Zm Y <| Zv (p_lss Y Y) <| Za Y <| Za Y <| Z0 <| Zn [8, 9] ?_
  refine Zx <| at_ret <| Zt ?_
  refine nx_end2 rfl results103 Y Y (by
        exact ⟨leafS s, decide (((ls.length : Nat) : Int) - 1 < 0), rfl, ⟨by rw [show leafS s = sha _ from rfl, sha_len]; exact Nat.le_refl _, by
          rw [h1, val_end (Nat.le_refl 1)]
          by_cases h : ls = []
          · subst h; rfl
          · have : 0 < ls.length := List.length_pos_iff.2 h
            rw [if_neg (by simpa using h), decide_eq_false (by omega)]; rfl⟩, rfl⟩)
 ·
  refine at_skip <| Zx <| Zq <| Zq <| Zg <| Zm Y <| Zv (p_lss Y Y) <| Z0 <| Zx ?_
  refine at_if Y (fun h0 => ?_) (fun h0 => ?_)
  ·
   refine Zq <| Zg <| Za Y <| Za Y <| Z0 <| Zx <| at_ret <| Zt ?_
   refine nx_end2 rfl results103 Y Y (by exact ⟨[], false, rfl, ⟨by simp, by rw [List.eq_nil_of_length_eq_zero (show ls.length = 0 by omega)]; exact val_out (by omega)⟩, rfl⟩)
  ·
   have h9 : 2 ≤ n := by omega
   have hk1 := left_lt h9
   have hk2 := left_pos n
   obtain ⟨x, hx⟩ : ∃ x, ls[ls.length - 1]? = some x := ⟨_, List.getElem?_eq_getElem (by omega)⟩
   have hsx := hs32 x (List.mem_of_getElem? hx)
   have hrv := rev_lastP (show ls.length = ls.length - 1 + 1 by omega) hx
   obtain ⟨g, off, cur, T, zz, rfl, hm9, hex9⟩ := hg _ x hx
   have hvt := hv.take (ls.length - 1) (by omega)
   have hl1 : ((ls.length : Nat) : Int) - 1 = ((ls.length - 1 : Nat) : Int) := by omega
   refine at_skip <| Zx <| Zq <| Zg <| Zm Y <| Zr [_] Y call82 Y rfl (r2_left n h9 (by omega)) ?_
   rintro _ _ ⟨rfl, rfl⟩
   refine Za Y <| Z0 <| Zn [0, 1, 2, 3, 10, 11] ?_
   refine Zx <| Zq <| Zq ?_
   rw [hl1]
   refine Zg <| Zm Y <| Zm Y <| Zv (p_lss_nat Y Y) <| Z0 <| Zx ?_
   refine at_if Y (fun hik => ?_) (fun hik => ?_)
   ·
    refine Zq <| Zg <| Zm Y <| Zm Y <| Zm Y <| Zm Y <| Zm Y ?_
    (refine op_v (p_slice_slice_to underlying35 sizeOf9 Y Y ?_) ?_; (focus (omega)))
    refine Zc [_, _, _, _] Y call103 Y rfl (IH (ls := ls.take (ls.length - 1)) (leftN n) (i) (by rw [List.length_take]; omega) (by exact hvt) (by omega) (by omega) (by omega) (by rw [List.length_take]; omega) (fun s h => hs32 s (List.mem_of_mem_take h))) ?_
    rintro _ _ ⟨_, ⟨w, b, rfl, ⟨hw, hval⟩, rfl⟩, rfl⟩
    refine Zm Y <| Zd Y rfl <| Zd Y rfl <| Za Y <| Za Y <| Z0 <| Zn [3, 10, 12, 13] ?_
    refine Zx <| Zq <| Zg <| Zm Y <| Zm Y <| Zm Y ?_
    (refine op_v (p_indexAddr_nat1 underlying35 sizeOf9 Y Y ?_) ?_; (focus (omega)))
    refine op_rm (cs := [(g, .cells cur T zz)]) (by simp [hm9]) (p_load isAgg9 Y (by exact hex9)) rfl rfl ?_
    refine Zr [_, _] Y call83 Y rfl (r2_node w x (by omega) (by omega)) ?_
    rintro _ _ ⟨rfl, rfl⟩
    refine Zm Y <| Za Y <| Za Y <| Z0 <| Zx <| at_ret <| Zt ?_
    refine nx_end2 rfl results103 Y Y (by exact ⟨_, b, rfl, ⟨by rw [show nodeS _ _ = sha _ from rfl, sha_len]; exact Nat.le_refl _, by rw [hrv, val_first h9 hik, hval]; cases b <;> rfl⟩, rfl⟩)
   ·
    refine at_skip <| Zx <| Zq <| Zg <| Zm Y <| Zm Y <| Yb Y Y <| Zm Y <| Zm Y <| Yb Y Y <| Zm Y <| Zm Y <| Zm Y ?_
    (refine op_v (p_slice_slice_to underlying35 sizeOf9 Y Y ?_) ?_; (focus (omega)))
    refine Zc [_, _, _, _] Y call103 Y rfl (IH (ls := ls.take (ls.length - 1)) (n - leftN n) (i - leftN n) (by rw [List.length_take]; omega) (by exact hvt) (by omega) (by omega) (by omega) (by rw [List.length_take]; omega) (fun s h => hs32 s (List.mem_of_mem_take h))) ?_
    rintro _ _ ⟨_, ⟨w, b, rfl, ⟨hw, hval⟩, rfl⟩, rfl⟩
    refine Zm Y <| Zd Y rfl <| Zd Y rfl <| Za Y <| Za Y <| Z0 <| Zn [3, 10, 14, 15] ?_
    refine Zx <| Zq <| Zg <| Zm Y <| Zm Y ?_
    (refine op_v (p_indexAddr_nat1 underlying35 sizeOf9 Y Y ?_) ?_; (focus (omega)))
    refine op_rm (cs := [(g, .cells cur T zz)]) (by simp [hm9]) (p_load isAgg9 Y (by exact hex9)) rfl rfl ?_
    refine Zm Y <| Zr [_, _] Y call83 Y rfl (r2_node x w (by omega) (by omega)) ?_
    rintro _ _ ⟨rfl, rfl⟩
    refine Zm Y <| Za Y <| Za Y <| Z0 <| Zx <| at_ret ?_
    refine nx_end2 rfl results103 Y Y (by exact ⟨_, b, rfl, ⟨by rw [show nodeS _ _ = sha _ from rfl, sha_len]; exact Nat.le_refl _, by rw [hrv, val_second h9 hik, hval]; cases b <;> rfl⟩, rfl⟩)

theorem r2_value (s : Bs) (hsl : s.length ≤ 140737488354000) : ∀ (m : Nat) {M : List Chunk} {v : Value} {ls : List Bs} (n i : Nat), ls.length ≤ m → StrsU M v ls → 1 ≤ n → n ≤ 1000000 → i ≤ 1000000 → ls.length ≤ 1000000 → (∀ s ∈ ls, s.length = 32) → Does Tryz.prog 103 #[.int .i64 (n : Int), .int .i64 (i : Int), .string (str s), v] [M] (fun r H' => ∃ w b, r = .tuple #[.string (str w), .bool b] ∧ ValIs s n i ls w b ∧ H' = [M])
  | 0, _, _, ls, n, i, h, hv, h1, h2, h3, h4, h5 => r2_value_step ls.length s hsl (fun _ _ h9 => absurd h9 (by omega)) n i rfl hv h1 h2 h3 h4 h5
  | m + 1, _, _, ls, n, i, h, hv, h1, h2, h3, h4, h5 => r2_value_step ls.length s hsl (fun n2 i2 h9 hv2 a b c d e => r2_value s hsl m n2 i2 (by omega) hv2 a b c d e) n i rfl hv h1 h2 h3 h4 h5

theorem r2_verify {M : List Chunk} {v : Value} {ls : List Bs} (hv : StrsU M v ls) (root s : Bs) (hsl : s.length ≤ 140737488354000) (n i : Nat) (hin : i < n) (hn2 : n ≤ 1000000) (hmm : ls.length ≤ 1000000) : DoesR Tryz.prog 66 #[.string (str root), .int .i64 (n : Int), .int .i64 (i : Int), .string (str s), v] [M] (.bool (verT root n i s ls)) := by
 have hml : maxLen = 9223372036854775807 := rfl
 obtain ⟨p, cap, rfl, hl, hg⟩ := id hv
 refine spec_enter func66 rfl ntmps66 rfl ?_
 intro u R
 refine Zb [0, 1, 2, 3, 4] ?_
 refine Zq <| Zg <| Za Y <| Z0 <| Zx <| Zq <| Zg <| Zm Y <| Zr [_] Y call102 Y rfl (r2_digests hv) ?_
 rintro _ _ ⟨rfl, rfl⟩
 refine Za Y <| Z0 <| Zx <| Zq <| Zq <| Zg <| Zm Y <| Zv (p_lss_nat (n := 0) Y Y) <| Zm Y ?_
 refine ops_split (t := 18) Y rfl (fun k1 => ?_) (fun k1 => ?_)
 ·
  exfalso; omega
 ·
  refine Zf Y Y <| Zf Y Y <| Yg (p_geq_nat Y Y) <| Zv (p_pick_f Y Y) <| Zm Y ?_
  refine ops_split (t := 23) Y rfl (fun k2 => ?_) (fun k2 => ?_)
  ·
   exfalso; omega
  ·
   refine Zf Y Y <| Yg (p_not Y) <| Zv (p_pick_f Y Y) <| Z0 <| Zn [0, 1, 2, 3, 4, 26] ?_
   refine Zx ?_
   refine at_if_bool Y (fun hod => ?_) (fun hod => ?_)
   ·
    refine Zq <| Zg <| Za Y <| Z0 <| Zx <| at_ret <| Zt ?_
    refine nx_end1 rfl results66 Y (by exact ⟨by unfold verT; simp at hod; rw [show ls.any oddS = true by simpa using hod]; rfl, rfl⟩)
   ·
    refine at_skip <| Zx <| Zq <| Zg <| Zm Y <| Zm Y <| Zm Y <| Zm Y <| Zc [_, _, _, _] Y call103 Y rfl (r2_value s hsl _ n i (Nat.le_refl _) hv (by omega) hn2 (by omega) hmm (odd_allP (by simpa using hod))) ?_
    rintro _ _ ⟨_, ⟨w, b, rfl, ⟨hw, hval⟩, rfl⟩, rfl⟩
    refine Zm Y <| Zd Y rfl <| Zd Y rfl <| Za Y <| Za Y <| Z0 <| Zx <| Zq <| Zg <| Zm Y <| Zm Y ?_
    refine ops_split_bool (t := 36) Y rfl (fun hb => ?_) (fun hb => ?_)
    ·
     refine Zf Y Y <| Zf Y Y <| Yg (p_eql_str Y Y) <| Zv (p_pick_t Y Y) <| Za Y <| Z0 <| Zn [10] ?_
     refine Zx <| at_ret ?_
     refine nx_end1 rfl results66 Y (by exact ⟨by unfold verT; rw [show ls.any oddS = false by simpa using hod, hval, hb]; exact congrArg Value.bool (decide_eq_decide.2 ⟨fun h => by rw [str_inj h]; rfl, fun h => by injection h with h; rw [h]⟩), rfl⟩)
    ·
     refine op_skip Y rfl <| op_skip Y rfl <| op_skip Y rfl <| Zv (p_pick_f Y Y) <| Za Y <| Z0 <| Zn [10] ?_
     refine Zx <| at_ret ?_
     refine nx_end1 rfl results66 Y (by exact ⟨by unfold verT; rw [show ls.any oddS = false by simpa using hod, hval, hb]; rfl, rfl⟩)

end Go.Proofs.YtjeepldonhgohaaGreatDoor
