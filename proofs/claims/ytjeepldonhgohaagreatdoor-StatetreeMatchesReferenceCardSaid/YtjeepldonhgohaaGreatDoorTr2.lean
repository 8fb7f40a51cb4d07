/- slices.Backward; digest.Root. -/
import Derived.Test.YtjeepldonhgohaaGreatDoorEz
import Derived.Test.YtjeepldonhgohaaGreatDoorTr1
import Derived.Test.YtjeepldonhgohaaGreatDoorEx6

namespace Go.Proofs.YtjeepldonhgohaaGreatDoor
open Go.Proofs.Tryz
open Go Go.RowKit Gw
set_option linter.unusedVariables false
set_option linter.unusedSimpArgs false
set_option maxRecDepth 100000
attribute [local irreducible] Gw.At Gw.Nx Gw.Ops
/-- A list from its end. -/
def bwd {α : Type} [Inhabited α] (ls : List α) : List (Nat × α) := (List.range ls.length).reverse.map (fun i => (i, ls.getD i default))
theorem bwd_len {α : Type} [Inhabited α] (ls : List α) : (bwd ls).length = ls.length := by simp [bwd]
theorem bwd_at {α : Type} [Inhabited α] {ls : List α} {m : Nat} {s : α} (h : ls[m]? = some s) : (bwd ls)[ls.length - (m + 1)]? = some (m, s) := by
  have hlt := (List.getElem?_eq_some_iff.1 h).1
  unfold bwd
  rw [List.getElem?_map, List.getElem?_reverse (by simp; omega), List.length_range, List.getElem?_range (by omega)]
  rw [show ls.length - 1 - (ls.length - (m + 1)) = m by omega]
  simp [List.getD, h]
theorem bwd_snd {α : Type} [Inhabited α] (ls : List α) : (bwd ls).map Prod.snd = ls.reverse := by
  apply List.ext_getElem?
  intro i
  by_cases hi : i < ls.length
  · have h1 : ls[ls.length - 1 - i]? = some (ls[ls.length - 1 - i]'(by omega)) := List.getElem?_eq_getElem _
    have h2 := bwd_at h1
    rw [show ls.length - (ls.length - 1 - i + 1) = i by omega] at h2
    rw [List.getElem?_map, h2, List.getElem?_reverse hi, h1]; rfl
  · rw [List.getElem?_eq_none (by rw [List.length_map, bwd_len]; omega), List.getElem?_eq_none (by simp; omega)]
theorem bwd_mem {α : Type} [Inhabited α] {ls : List α} {x : Nat × α} (h : x ∈ bwd ls) : x.2 ∈ ls := by
  have h1 : x.2 ∈ (bwd ls).map Prod.snd := List.mem_map.2 ⟨x, h, rfl⟩
  rw [bwd_snd, List.mem_reverse] at h1
  exact h1
theorem split_at {α : Type} {xs : List α} {j : Nat} {x : α} (h : xs[j]? = some x) : xs = xs.take j ++ x :: xs.drop (j + 1) := by
  have hlt := (List.getElem?_eq_some_iff.1 h).1
  rw [List.getElem?_eq_getElem hlt] at h; injection h with h
  rw [← h, ← List.drop_eq_getElem_cons hlt, List.take_append_drop]
theorem take_snoc {α : Type} {xs : List α} {j : Nat} {x : α} (h : xs[j]? = some x) : xs.take (j + 1) = xs.take j ++ [x] := by rw [List.take_add_one, h]; rfl
theorem fold_bwd (xs : List Bs) (q : Bs) : (bwd xs).foldl (fun o (x : Nat × Bs) => nodeS x.2 o) q = xs.reverse.foldl (fun o r => nodeS r o) q := by
  rw [← bwd_snd, List.foldl_map]
theorem two_at {α : Type} (f : List α → Value) (ps : List (List α)) (p q : List α) : (((ps ++ [p]) ++ [q]).map f)[(ps ++ [p]).length + 1 - 2]? = some (f p) ∧ (((ps ++ [p]) ++ [q]).map f)[(ps ++ [p]).length + 1 - 1]? = some (f q) := by
  have e : (ps ++ [p]).length = ps.length + 1 := by simp
  constructor
  · rw [show (ps ++ [p]).length + 1 - 2 = ps.length by omega]; simp
  · rw [show (ps ++ [p]).length + 1 - 1 = ps.length + 1 by omega]; simp
theorem two_take {α : Type} (f : List α → Value) (ps : List (List α)) (p q : List α) : (((ps ++ [p]) ++ [q]).map f).take (((ps ++ [p]).length + 1 - 2) * 1) = ps.map f := by
  rw [show ((ps ++ [p]).length + 1 - 2) * 1 = (ps.map f).length by simp]
  simp
theorem last_at {α : Type} (f : List α → Value) (ps : List (List α)) (q : List α) : ((ps ++ [q]).map f)[(ps ++ [q]).length - 1]? = some (f q) := by
  rw [show (ps ++ [q]).length - 1 = ps.length by simp]; simp
theorem last_take {α : Type} (f : List α → Value) (ps : List (List α)) (q : List α) : ((ps ++ [q]).map f).take (((ps ++ [q]).length - 1) * 1) = ps.map f := by
  rw [show ((ps ++ [q]).length - 1) * 1 = (ps.map f).length by simp]
  simp
theorem last_of {α : Type} {ps : List α} (h : 0 < ps.length) : ∃ ps' p, ps = ps' ++ [p] := by
  rcases List.eq_nil_or_concat ps with rfl | ⟨a, b, e⟩
  · simp at h
  · exact ⟨a, b, by rw [e, List.concat_eq_append]⟩
theorem fold_len (xs : List (Nat × Bs)) (q : Bs) (hq : q.length = 32) : (xs.foldl (fun o (x : Nat × Bs) => nodeS x.2 o) q).length = 32 := by
  rcases List.eq_nil_or_concat xs with rfl | ⟨ys, y, rfl⟩
  · exact hq
  · rw [List.concat_eq_append, List.foldl_append]; exact sha_len _

theorem backward_spec (p : Option Addr) (n c : Nat) : Does Tryz.prog 60 #[.slice p n c] [] (fun r H' => ∃ b, r = .func (.func 93) #[] #[.pointer (some ⟨b, 0, none⟩)] ∧ H' = [[(b, .cells #[.slice p n c] 35 (0, 0))]]) := by
 refine spec_enter func60 rfl ntmps60 rfl ?_
 intro u R
 refine Zb [0] ?_
 refine Zq <| Zg <| Ze (w_box Y (cs := #[_]) rfl) ?_
 rintro _ _ ⟨b, rfl, rfl⟩
 refine Za Y <| Z0 <| Zx <| Zq <| Zg <| Zv (p_makeFunc (vs := []) (us := [_]) Y Y) ?_
 refine Za Y <| Z0 <| Zx <| at_ret ?_
 refine nx_end1 rfl results60 Y (by exact ⟨_, rfl, rfl⟩)

theorem backward_iter {M : List Chunk} {v : Value} {ls : List Bs} (hv : StrsU M v ls) (b : Nat) (hn : ls.length ≤ 1000000000000) :
    IterSpecA Tryz.prog 93 #[.pointer (some ⟨b, 0, none⟩)] [[(b, .cells #[v] 35 (0, 0))]] (fun s => ∀ c ∈ M, c ∈ s) (fun x => #[.int .i64 ((x.1 : Nat) : Int), strV x.2]) (bwd ls) := by
 have hml : maxLen = 9223372036854775807 := rfl
 obtain ⟨p, cap, rfl, hl, hg⟩ := hv
 intro l J hA hy s hJ
 refine spec_enter func93 rfl ntmps93 rfl ?_
 intro u R
 refine Zb [0, 1] ?_
 refine Zq <| Zg <| Zl isAgg35 Y ?_
 refine Zv (p_len_slice underlying35 Y) ?_
 (refine op_v (p_sub Y Y (IntWalk.i64_in _ ?_)) ?_; (focus (omega)))
 refine Za Y <| Z0 <| Zx <| at_block <| Zb [3, 0, 1] ?_
 refine at_loopB (e0 := [(3, _)]) (H0 := _) (n := _) (fun m e H => ∃ (k : Nat) (s : List Chunk), m = 0 + k ∧ (k ≤ ls.length ∧ J ((bwd ls).take (ls.length - k)) s) ∧ e = [(3, .int .i64 ((k : Int) - 1))] ∧ H = [[(b, .cells #[.slice p ls.length cap] 35 (0, 0))], s]) (by exact ⟨ls.length, s, rfl, ⟨Nat.le_refl _, by rw [Nat.sub_self, List.take_zero]; exact hJ⟩, rfl, rfl⟩) (by repeat (first | exact Pull.nil _ | (apply Pull.cons; (focus (repeat (first | exact One.here _ _ | apply One.there)))))) ?_
 rintro _ _ _ ⟨k, s, rfl, ⟨hk, hJ⟩, rfl, rfl⟩
 refine Zq <| Zq <| Zg <| Zm Y <| Zv (p_geq Y Y) <| Z0 <| Zx ?_
 refine at_if Y (fun hlt => ?_) (fun hlt => ?_)
 ·
  obtain ⟨m, rfl⟩ : ∃ m, k = m + 1 := ⟨k - 1, by omega⟩
  rw [show (((m + 1 : Nat) : Int) - 1) = ((m : Nat) : Int) by omega]
  obtain ⟨z9, hz9⟩ : ∃ z9, ls[m]? = some z9 := ⟨_, List.getElem?_eq_getElem (by omega)⟩
  have hb9 := bwd_at hz9
  obtain ⟨g, o, cur, T, zz, rfl, hm, hex8⟩ := hg m z9 hz9
  have hex9 := hex8
  have hyk := hy _ _ _ s (split_at hb9) hJ
  refine at_skip <| Zx <| Zq <| at_block <| Zq <| Zg <| Zm Y <| Zm Y <| Zl isAgg35 Y ?_
  refine Zm Y ?_
  (refine op_v (p_indexAddr_nat1 underlying35 sizeOf9 Y Y ?_) ?_; (focus (omega)))
  refine op_rm (cs := [(g, .cells cur T zz)]) (by simp [hA _ s hJ _ hm]) (p_load isAgg9 Y (by exact hex9)) rfl rfl ?_
  refine Ze (w_yield (vs := [_, _]) Y Y (hyk) (by repeat (first | exact Pull.nil _ | (apply Pull.cons; (focus (repeat (first | exact One.here _ _ | apply One.there))))))) ?_
  rintro _ _ ⟨_, ⟨s', rfl, rfl, hJ'⟩, rfl⟩
  refine Zv (p_not Y) <| Z0 <| Zx ?_
  refine at_if_bool Y (fun hb => ?_) (fun hb => ?_)
  ·
   cases hb
  ·
   refine at_skip <| nx_block_normal <| Zx <| Zg <| Zm Y ?_
   (refine op_v (p_sub Y Y (IntWalk.i64_in _ ?_)) ?_; (focus (omega)))
   refine Za Y <| Z0 <| Zn [3, 0, 1] ?_
   refine nx_againB (e' := [(3, _)]) (m := _) (H' := _) (by exact ⟨m, s', rfl, ⟨by omega, by rw [show ls.length - m = ls.length - (m + 1) + 1 by omega, take_snoc hb9]; exact hJ'⟩, rfl, rfl⟩)
 ·
  have hk0 : k = 0 := by omega
  subst hk0
  rw [Nat.sub_zero, List.take_of_length_le (by rw [bwd_len]; exact Nat.le_refl _)] at hJ
  refine at_exit <| Zt <| Zt <| nx_block_exit ?_
  refine nx_end0 rfl results93 (by exact ⟨s, rfl, hJ⟩)

theorem root_spec {M : List Chunk} {v : Value} {ls : List Bs} (hv : StrsU M v ls) (hn : ls.length ≤ 1000000) (hs : ∀ s ∈ ls, s.length ≤ 1099511627000) (Tg : TypeId) (zg : Nat × Nat) : DoesR Tryz.prog 22 #[v] [[(0, .cells (kTab.map u32v).toArray Tg zg)], M] (.string (str (rootT ls))) := by
 have hml : maxLen = 9223372036854775807 := rfl
 obtain ⟨p, cap, rfl, hl, hg⟩ := hv
 refine spec_enterM func22 rfl ntmps22 rfl ?_
 intro u R
 refine Zb [0] ?_
 refine Zq <| Zg <| Za Y <| Z0 <| Zx <| Zq <| Zg <| Za Y <| Z0 <| Zx <| Zq <| Zg <| Za Y <| Z0 <| Zx <| Zq <| Zq <| Zg <| Zm Y <| Zv (p_len_slice underlying35 Y) <| Zm Y <| Z0 <| Zx <| at_block ?_
 refine at_nil ?_
 refine at_nil ?_
 refine Zb [3, 4, 13, 11, 12] ?_
 refine at_loopB (e0 := [(3, _), (4, _), (13, _)]) (H0 := _) (n := _) (fun m e H => ∃ (i : Nat) (ps : List (List Bs)) (vw : Value) (sw : List Chunk) (vz : Value) (sz : List Chunk), m = ls.length - i ∧ (i ≤ ls.length ∧ BinP ps ∧ ps.flatten = ls.take i ∧ RowS 1 9 vw ps.length (ps.map rtV) sw ∧ RowS 1 3 vz ps.length (ps.map lnV) sz ∧ ps.length ≤ i) ∧ e = [(3, vw), (4, vz), (13, .int .i64 (i : Int))] ∧ H = [sw, sz]) (by exact ⟨0, [], .slice none 0 0, [], .slice none 0 0, [], rfl, ⟨Nat.zero_le _, binP_nil, rfl, rowS_nil 1 _, rowS_nil 1 _, Nat.le_refl _⟩, rfl, rfl⟩) (by repeat (first | exact Pull.nil _ | (apply Pull.cons; (focus (repeat (first | exact One.here _ _ | apply One.there)))))) ?_
 rintro _ _ _ ⟨i, ps, vw, sw, vz, sz, rfl, ⟨hi, hB, hf, hrw, hrz, hpi⟩, rfl, rfl⟩
 refine Zq <| Zg <| Zv (p_lss_nat Y Y) <| Z0 <| Zx <| Zq ?_
 refine at_if Y (fun hlt => ?_) (fun hlt => ?_)
 ·
  obtain ⟨s9, hs9⟩ : ∃ s9, ls[i]? = some s9 := ⟨_, List.getElem?_eq_getElem hlt⟩
  obtain ⟨g, o, cur, T, zz, rfl, hm9, hex9⟩ := hg i s9 hs9
  obtain ⟨qw, cw, rfl⟩ := hrw.form
  obtain ⟨qz, cz, rfl⟩ := hrz.form
  have hs91 := hs s9 (List.mem_of_getElem? hs9)
  refine at_skip <| Zx <| Zq <| at_block <| Zq <| Zg ?_
  (refine op_v (p_indexAddr_nat1 underlying35 sizeOf9 Y Y ?_) ?_; (focus (omega)))
  refine op_rm (cs := [(g, .cells cur T zz)]) (by simp [hm9]) (p_load isAgg9 Y (by exact hex9)) rfl rfl ?_
  refine Za Y <| Z0 <| Zx <| Zq <| Zg <| Zm Y <| Zm Y <| Zr [_] Y call58 Y rfl (leaf_spec s9 hs91 Tg zg) ?_
  rintro _ _ ⟨rfl, rfl⟩
  refine Ze (w_buildSlice (vs := [_]) (cs := [_]) underlying35 sizeOf9 zeroValue9 Y rfl rfl rfl rfl rfl) ?_
  rintro _ _ ⟨b1, rfl, rfl⟩
  refine Ze (w_appendS (by_ := 16) (sz := 1) (news := [_]) underlying35 (rfl : Tryz.prog.info? 9 = some Tryz.t9) rfl rfl rfl rfl Y hrw Y (by repeat (first | exact One.here _ _ | apply One.there)) (by repeat (first | exact Has.here _ | apply Has.there)) (by rfl) rfl (by simp [Value.oneCell']) (by decide) (by omega) (by omega)) ?_
  rintro _ _ ⟨sw, hrw, rfl⟩
  obtain ⟨gw, cw, rfl⟩ := hrw.form
  refine Zm Y <| Ze (w_buildSlice (vs := [_]) (cs := [_]) underlying61 sizeOf3 zeroValue3 Y rfl rfl rfl rfl rfl) ?_
  rintro _ _ ⟨b3, rfl, rfl⟩
  refine Ze (w_appendS (by_ := 8) (sz := 1) (news := [_]) underlying61 (rfl : Tryz.prog.info? 3 = some Tryz.t3) rfl rfl rfl rfl Y hrz Y (by repeat (first | exact One.here _ _ | apply One.there)) (by repeat (first | exact Has.here _ | apply Has.there)) (by rfl) rfl (by simp [Value.oneCell']) (by decide) (by omega) (by omega)) ?_
  rintro _ _ ⟨sz, hrz, rfl⟩
  obtain ⟨gz, cz, rfl⟩ := hrz.form
  refine Za Y <| Za Y <| Z0 <| Zn [3, 4, 11, 12, 13] ?_
  refine Zx <| Zq <| Zg <| Zm Y <| Zv (p_len_slice underlying61 Y) <| Za Y <| Z0 <| Zx <| at_block <| Zb [3, 4, 7, 11, 12, 13] ?_
  refine at_loopB (e0 := [(3, _), (4, _), (7, _)]) (H0 := _) (n := _) (fun m e H => ∃ (ps2 : List (List Bs)) (q : List Bs) (vw2 : Value) (sw2 : List Chunk) (vz2 : Value) (sz2 : List Chunk), m = 0 + ps2.length ∧ (MergeI ls ps2 q (i + 1) ∧ RowS 1 9 vw2 (ps2.length + 1) ((ps2 ++ [q]).map rtV) sw2 ∧ RowS 1 3 vz2 (ps2.length + 1) ((ps2 ++ [q]).map lnV) sz2 ∧ ps2.length ≤ i) ∧ e = [(3, vw2), (4, vz2), (7, .int .i64 ((ps2.length + 1 : Nat) : Int))] ∧ H = [sw2, sz2]) (by exact ⟨ps, [s9], _, _, _, _, rfl, ⟨merge_new hB hf hs9, rowS_eq hrw rfl (by rw [List.map_append, List.map_singleton]; unfold rtV; rw [root_one]; rfl), rowS_eq hrz rfl (by rw [List.map_append]; rfl), hpi⟩, rfl, rfl⟩) (by repeat (first | exact Pull.nil _ | (apply Pull.cons; (focus (repeat (first | exact One.here _ _ | apply One.there)))))) ?_
  rintro _ _ _ ⟨ps2, q, vw2, sw2, vz2, sz2, rfl, ⟨hM, hrw2, hrz2, hp2⟩, rfl, rfl⟩
  refine Zq <| Zq <| at_draw (n := 15) (0 :: 1 :: 3 :: 7 :: 7 :: 23 :: 63 :: 127 :: 7 :: 7 :: 519 :: 1799 :: 3847 :: 8191 :: 16383 :: []) 0 (by kernel_rfl) (by kernel_rfl) rfl ?_
  refine Zi 1 0 rfl (p_move Y) <| Zi 3 1 rfl (p_gtr_nat (n := 1) Y Y) <| Zi 7 2 rfl (p_move Y) ?_
  refine lin_split (t := 29) Y (fun hn9 => ?_) (fun hn9 => ?_)
  ·
   first | rw [decide_eq_true hn9] | rw [hn9] | skip
   obtain ⟨ps1, p9, rfl⟩ := last_of (ps := ps2) (by omega)
   have hpl : (ps1 ++ [p9]).length = ps1.length + 1 := by simp
   obtain ⟨gw2, cw2, curw2, zw2, rfl, rfl, hlw2, hgw2⟩ := rowS_get (id hrw2) (by omega)
   obtain ⟨gz2, cz2, curz2, zz2, rfl, rfl, hlz2, hgz2⟩ := rowS_get (id hrz2) (by omega)
   have hz1 := hgz2 _ _ (two_at lnV ps1 p9 q).1
   have hz2 := hgz2 _ _ (two_at lnV ps1 p9 q).2
   have hw1 := hgw2 _ _ (two_at rtV ps1 p9 q).1
   have hw2 := hgw2 _ _ (two_at rtV ps1 p9 q).2
   have hql : q.length ≤ ls.length := by have h9 := congrArg List.length hM.flat; rw [List.length_append, List.length_take] at h9; omega
   refine lin_wg (D' := 15) 3 Y rfl rfl rfl (p_move Y) ?_
   refine lin_wg (D' := 31) 4 Y rfl rfl rfl (p_move Y) ?_
   (refine lin_wg (D' := 63) 5 Y rfl rfl rfl (p_sub_nat (n := 2) Y Y ?_ ?_) ?_; (focus (omega)); (focus (omega)))
   (refine lin_wg (D' := 127) 6 Y rfl rfl rfl (p_indexAddr_nat0 underlying61 sizeOf3 Y Y ?_) ?_; (focus (omega)))
   refine lin_rg (D' := 255) 7 Y rfl rfl rfl (by repeat (first | exact Has.here _ | apply Has.there)) (p_load isAgg3 Y (by exact hz1)) ?_
   refine lin_wg (D' := 511) 8 Y rfl rfl rfl (p_move Y) ?_
   refine lin_wg (D' := 1023) 9 Y rfl rfl rfl (p_move Y) ?_
   (refine lin_wg (D' := 2047) 10 Y rfl rfl rfl (p_sub_nat (n := 1) Y Y ?_ ?_) ?_; (focus (omega)); (focus (omega)))
   (refine lin_wg (D' := 4095) 11 Y rfl rfl rfl (p_indexAddr_nat0 underlying61 sizeOf3 Y Y ?_) ?_; (focus (omega)))
   refine lin_rg (D' := 8191) 12 Y rfl rfl rfl (by repeat (first | exact Has.here _ | apply Has.there)) (p_load isAgg3 Y (by exact hz2)) ?_
   refine lin_wg (D' := 16383) 13 Y rfl rfl rfl (p_eql_nat Y Y) ?_
   refine Zi 32767 14 rfl (p_pick_t Y Y) <| lin_nil ?_
   refine Zn [3, 4, 7, 11, 12, 13, 41] ?_
   refine Zx ?_
   refine at_if Y (fun he => ?_) (fun he => ?_)
   ·
    have hst := hM.step he
    refine at_skip <| Zx <| Zq <| at_block <| Zq <| at_draw (n := 18) (0 :: 0 :: 2 :: 7 :: 0 :: 0 :: 32 :: 112 :: 240 :: 0 :: 0 :: 1024 :: 3584 :: 7680 :: 16368 :: 32752 :: 65535 :: 131071 :: []) 114688 (by kernel_rfl) (by kernel_rfl) rfl ?_
    refine Zi 1 0 rfl (p_move Y) <| Zi 3 1 rfl (p_move Y) ?_
    (refine lin_v (D' := 7) 2 (p_sub_nat (n := 2) Y Y ?_ ?_) ?_; (focus (omega)); (focus (omega)))
    (refine lin_v (D' := 15) 3 (p_slice_slice_to underlying35 sizeOf9 Y Y ?_) ?_; (focus (first | omega | (simp; omega))))
    refine Zi 31 4 rfl (p_move Y) <| Zi 63 5 rfl (p_move Y) ?_
    (refine lin_v (D' := 127) 6 (p_sub_nat (n := 2) Y Y ?_ ?_) ?_; (focus (omega)); (focus (omega)))
    (refine lin_v (D' := 255) 7 (p_indexAddr_nat0 underlying35 sizeOf9 Y Y ?_) ?_; (focus (first | omega | (simp; omega))))
    refine Zj 511 8 rfl isAgg9 Y (hv := by exact hw1) ?_
    refine Zi 1023 9 rfl (p_move Y) <| Zi 2047 10 rfl (p_move Y) ?_
    (refine lin_v (D' := 4095) 11 (p_sub_nat (n := 1) Y Y ?_ ?_) ?_; (focus (omega)); (focus (omega)))
    (refine lin_v (D' := 8191) 12 (p_indexAddr_nat0 underlying35 sizeOf9 Y Y ?_) ?_; (focus (first | omega | (simp; omega))))
    refine Zj 16383 13 rfl isAgg9 Y (hv := by exact hw2) ?_
    refine Zz (l := [14]) ?_
    refine Zy 16368 32767 [13, 8] [false, false] [] rfl Y rfl rfl rfl rfl (Zu [_, _] Y call59 Y rfl (node_spec (rootT p9) (rootT q) (by rw [root_len]; omega) (by rw [root_len]; omega) Tg zg)) ?hk_3 (fun _ _ h => h.elim) ?hl_3
    case hk_3 =>
     rintro _ _ ⟨rfl, rfl⟩
     refine ⟨keep_nil, ?_⟩
     refine Zz (l := [15]) ?_
     refine Zy 32752 65535 [] [] [] rfl Y rfl rfl rfl rfl (w_buildSlice (vs := [_]) (cs := [_]) underlying35 sizeOf9 zeroValue9 Y rfl rfl rfl rfl rfl) ?hk_4 (fun _ _ h => h.elim) ?hl_4
     case hk_4 =>
      rintro _ _ ⟨b5, rfl, rfl⟩
      refine ⟨keep_nil, ?_⟩
      refine Zz (l := [16]) ?_
      refine Zy 65535 131071 [] [] [] rfl Y rfl rfl rfl rfl (w_appendS (by_ := 16) (sz := 1) (news := [_]) underlying35 (rfl : Tryz.prog.info? 9 = some Tryz.t9) rfl rfl rfl rfl Y (rowS_take hrw2 ((ps1 ++ [p9]).length + 1 - 2) (by omega)) Y (by repeat (first | exact One.here _ _ | apply One.there)) (by repeat (first | exact Has.here _ | apply Has.there)) (by rfl) rfl (by simp [Value.oneCell']) (by decide) (by omega) (by omega)) ?hk_5 (fun _ _ h => h.elim) ?hl_5
      case hk_5 =>
       rintro _ _ ⟨sw3, hrw3, rfl⟩
       refine ⟨keep_nil, ?_⟩
       obtain ⟨gw3, cw3, rfl⟩ := hrw3.form
       refine Zi 262143 17 rfl (p_assign Y) <| lin_nil ?_
       refine Zn [3, 4, 7, 11, 12, 13] ?_
       refine Zx <| at_draw (n := 13) (0 :: 0 :: 2 :: 7 :: 0 :: 0 :: 32 :: 112 :: 240 :: 496 :: 1008 :: 2047 :: 4095 :: []) 3072 (by kernel_rfl) (by kernel_rfl) rfl ?_
       refine Zi 1 0 rfl (p_move Y) <| Zi 3 1 rfl (p_move Y) ?_
       (refine lin_v (D' := 7) 2 (p_sub_nat (n := 2) Y Y ?_ ?_) ?_; (focus (first | omega | (simp; omega))); (focus (first | omega | (simp; omega))))
       (refine lin_v (D' := 15) 3 (p_slice_slice_to underlying61 sizeOf3 Y Y ?_) ?_; (focus (first | omega | (simp; omega))))
       refine Zi 31 4 rfl (p_move Y) <| Zi 63 5 rfl (p_move Y) ?_
       (refine lin_v (D' := 127) 6 (p_sub_nat (n := 1) Y Y ?_ ?_) ?_; (focus (first | omega | (simp; omega))); (focus (first | omega | (simp; omega))))
       (refine lin_v (D' := 255) 7 (p_indexAddr_nat0 underlying61 sizeOf3 Y Y ?_) ?_; (focus (first | omega | (simp; omega))))
       refine Zj 511 8 rfl isAgg3 Y (hv := by exact hz2) ?_
       (refine lin_v (D' := 1023) 9 (p_mul_nat (m := 2) Y Y ?_) ?_; (focus (first | omega | (simp; omega))))
       refine Zz (l := [10]) ?_
       refine Zy 1008 2047 [8] [false] [] rfl Y rfl rfl rfl rfl (w_buildSlice (vs := [_]) (cs := [_]) underlying61 sizeOf3 zeroValue3 Y rfl rfl rfl rfl rfl) ?hk_6 (fun _ _ h => h.elim) ?hl_6
       case hk_6 =>
        rintro _ _ ⟨b7, rfl, rfl⟩
        refine ⟨keep_nil, ?_⟩
        refine Zz (l := [11]) ?_
        refine Zy 2047 4095 [] [] [] rfl Y rfl rfl rfl rfl (w_appendS (by_ := 8) (sz := 1) (news := [_]) underlying61 (rfl : Tryz.prog.info? 3 = some Tryz.t3) rfl rfl rfl rfl Y (rowS_take hrz2 ((ps1 ++ [p9]).length + 1 - 2) (by omega)) Y (by repeat (first | exact One.here _ _ | apply One.there)) (by repeat (first | exact Has.here _ | apply Has.there)) (by rfl) rfl (by simp [Value.oneCell']) (by decide) (by omega) (by omega)) ?hk_7 (fun _ _ h => h.elim) ?hl_7
        case hk_7 =>
         rintro _ _ ⟨sz3, hrz3, rfl⟩
         refine ⟨keep_nil, ?_⟩
         obtain ⟨gz3, cz3, rfl⟩ := hrz3.form
         refine Zi 8191 12 rfl (p_assign Y) <| lin_nil ?_
         refine Zn [3, 4, 7, 11, 12, 13] ?_
         refine nx_block_normal <| Zx <| Zg <| Zm Y ?_
         (refine op_v (p_sub_nat (n := 1) Y Y ?_ ?_) ?_; (focus (omega)); (focus (omega)))
         refine Za Y <| Z0 <| Zn [3, 4, 7, 11, 12, 13] ?_
         refine nx_againB (e' := [(3, _), (4, _), (7, _)]) (m := _) (H' := _) (by exact ⟨ps1, p9 ++ q, _, _, _, _, rfl, ⟨hst.1, rowS_eq hrw3 (by omega) (by rw [two_take, List.map_append, List.map_singleton]; unfold rtV; rw [hst.2]; rfl), rowS_eq hrz3 (by omega) (by rw [two_take, List.map_append, List.map_singleton]; unfold lnV; rw [List.length_append, he, ← Nat.two_mul]), by omega⟩, (by rw [show (ps1 ++ [p9]).length + 1 - 1 = ps1.length + 1 by omega]), rfl⟩)
        case hl_7 =>
         exact each_nil
       case hl_6 =>
        exact each_nil
      case hl_5 =>
       exact each_nil
     case hl_4 =>
      exact each_nil
    case hl_3 =>
     exact each_nil
   ·
    have hD := hM.done (fun a b e9 => by have e8 := List.singleton_inj.1 (List.append_inj' e9 rfl).2; rw [← e8]; exact he)
    refine at_exit <| Zt <| Zt <| nx_block_exit <| nx_block_normal <| Zx <| Zg ?_
    (refine op_v (p_add_nat (n := 1) Y Y ?_) ?_; (focus (omega)))
    refine Zm Y <| Z0 <| Zn [3, 4, 13, 11, 12] ?_
    refine nx_againB (e' := [(3, _), (4, _), (13, _)]) (m := _) (H' := _) (by exact ⟨i + 1, _, _, _, _, _, rfl, ⟨by omega, hD.1, hD.2, rowS_eq hrw2 (by simp) rfl, rowS_eq hrz2 (by simp) rfl, by rw [List.length_append]; simp; omega⟩, rfl, rfl⟩)
  ·
   first | rw [decide_eq_false hn9] | rw [hn9] | skip
   have hD := hM.done (fun a b e9 => by have e8 := congrArg List.length e9; rw [List.length_append] at e8; simp at e8; omega)
   refine lin_skip (D' := 15) 3 rfl Y rfl rfl ?_
   refine lin_skip (D' := 31) 4 rfl Y rfl rfl ?_
   refine lin_skip (D' := 63) 5 rfl Y rfl rfl ?_
   refine lin_skip (D' := 127) 6 rfl Y rfl rfl ?_
   refine lin_skip (D' := 255) 7 rfl Y rfl rfl ?_
   refine lin_skip (D' := 511) 8 rfl Y rfl rfl ?_
   refine lin_skip (D' := 1023) 9 rfl Y rfl rfl ?_
   refine lin_skip (D' := 2047) 10 rfl Y rfl rfl ?_
   refine lin_skip (D' := 4095) 11 rfl Y rfl rfl ?_
   refine lin_skip (D' := 8191) 12 rfl Y rfl rfl ?_
   refine lin_skip (D' := 16383) 13 rfl Y rfl rfl ?_
   refine Zi 32767 14 rfl (p_pick_f Y Y) <| lin_nil ?_
   refine Zn [3, 4, 7, 11, 12, 13, 41] ?_
   refine Zx <| at_else Y <| at_exit <| Zt <| Zt <| nx_block_exit <| nx_block_normal <| Zx <| Zg ?_
   (refine op_v (p_add_nat (n := 1) Y Y ?_) ?_; (focus (omega)))
   refine Zm Y <| Z0 <| Zn [3, 4, 13, 11, 12] ?_
   refine nx_againB (e' := [(3, _), (4, _), (13, _)]) (m := _) (H' := _) (by exact ⟨i + 1, _, _, _, _, _, rfl, ⟨by omega, hD.1, hD.2, rowS_eq hrw2 (by simp) rfl, rowS_eq hrz2 (by simp) rfl, by rw [List.length_append]; simp; omega⟩, rfl, rfl⟩)
 ·
  have ei : i = ls.length := by omega
  subst ei
  rw [List.take_of_length_le (Nat.le_refl _)] at hf
  obtain ⟨qw, cw, rfl⟩ := hrw.form
  refine at_exit <| Zt <| Zt <| nx_block_exit <| Zx <| Zq <| Zq <| Zg <| Zm Y <| Zv (p_len_slice underlying35 Y) <| Zv (p_eql_nat (n := 0) Y Y) <| Z0 <| Zx ?_
  refine at_if Y (fun h0 => ?_) (fun h0 => ?_)
  ·
   have e0 := List.eq_nil_of_length_eq_zero h0
   subst e0
   have e1 : ls = [] := hf.symm
   refine Zq <| Zg <| Zr [_] Y call31 Y rfl (sum_str [] (by simp) Tg zg) ?_
   rintro _ _ ⟨rfl, rfl⟩
   refine Za Y <| Z0 <| Zx <| at_ret <| Zt ?_
   refine nx_endM0 rfl (res1 results22 Y) (by exact ⟨by rw [e1, root_nil], rfl⟩)
  ·
   obtain ⟨ps1, q, rfl⟩ := last_of (ps := ps) (by omega)
   obtain ⟨gw2, cw2, curw2, zw2, hev, rfl, hlw2, hgw2⟩ := rowS_get (id hrw) (by omega)
   injection hev with hev1 hev2 hev3
   subst hev1 hev3
   have hw1 := hgw2 _ _ (last_at rtV ps1 q)
   have hql : (ps1 ++ [q]).length = ps1.length + 1 := by simp
   refine at_skip <| Zx <| Zq <| Zg <| Zm Y <| Zm Y <| Zv (p_len_slice underlying35 Y) ?_
   (refine op_v (p_sub_nat (n := 1) Y Y ?_ ?_) ?_; (focus (omega)); (focus (omega)))
   (refine op_v (p_indexAddr_nat0 underlying35 sizeOf9 Y Y ?_) ?_; (focus (omega)))
   refine Zl isAgg9 Y (hv := by exact hw1) ?_
   refine Ze (w_alloc zeroValue9 (cs := #[_]) rfl) ?_
   rintro _ _ ⟨ob, rfl, rfl⟩
   refine Ze (Zs sizeOf9 Y Y rfl (hc := by exact (rfl : _ = (#[strV (rootT q)] : Array Value)))) ?_
   rintro _ _ ⟨rfl, rfl⟩
   refine Z0 <| Zx <| Zq <| Zq <| Zg <| Zm Y <| Zm Y <| Zv (p_len_slice underlying35 Y) ?_
   (refine op_v (p_sub_nat (n := 1) Y Y ?_ ?_) ?_; (focus (omega)); (focus (omega)))
   (refine op_v (p_slice_slice_to underlying35 sizeOf9 Y Y ?_) ?_; (focus (first | omega | (simp; omega))))
   refine Zc [_] Y call60 Y rfl (backward_spec _ _ _) ?_
   rintro _ _ ⟨_, ⟨bb, rfl, rfl⟩, rfl⟩
   refine Z0 <| Zn [8, 89] ?_
   refine Zx <| at_block <| Zb [8, 89] ?_
   refine at_rangeAllA (H0 := _) (R := _) (I := (fun pre H => H = [[(ob, .cells #[strV (pre.foldl (fun o (x : Nat × Bs) => nodeS x.2 o) (rootT q))] 9 (0, 0))], [(gw2, .cells curw2 9 zw2)], [(0, .cells (kTab.map u32v).toArray Tg zg)]])) (asg := fun x => [(10, strV x.2), (91, strV x.2), (90, .int .i64 ((x.1 : Nat) : Int))]) rfl Y call93 (backward_iter (ls := ps1.map rootT) (v := .slice (some ⟨gw2, 0, none⟩) ((ps1 ++ [q]).length - 1) cw) (strsU_row (rowS_eq (rowS_take hrw ((ps1 ++ [q]).length - 1) (by omega)) (by simp) (by rw [last_take, List.map_map]; rfl)) (by rw [List.length_map]; omega)) bb (by rw [List.length_map]; omega)) (fun pre H1 c d h => by subst h; intro x hx; simp at hx; simp [hx]) Y rfl (by repeat (first | exact Pull.nil _ | (apply Pull.cons; (focus (repeat (first | exact One.here _ _ | apply One.there)))))) (rfl) ?ha_13 ?hbd_13 ?hk_13
   case ha_13 =>
    intro _ x _ _
    refine Zg <| Za Y <| Z0 ?_
    exact nx_is
   case hbd_13 =>
    intro l pre x post u H1 R1 hxs hI
    subst hI
    refine at_block <| Zg <| Zm Y <| Zl isAgg9 Y ?_
    refine Zr [_, _] Y call59 Y rfl (node_spec x.2 _ (by obtain ⟨y9, _, e9⟩ := List.mem_map.1 (bwd_mem (mem_split hxs)); rw [← e9, root_len]; omega) (by rw [fold_len _ _ (root_len q)]; omega) Tg zg) ?_
    rintro _ _ ⟨rfl, rfl⟩
    refine Ze (Zs sizeOf9 Y Y rfl) ?_
    rintro _ _ ⟨rfl, rfl⟩
    refine Z0 <| nx_block_normal ?_
    refine nx_round (H' := _) rfl (by rw [List.foldl_append])
   case hk_13 =>
    intro D1 H2 hI2
    subst hI2
    refine Zn [8] ?_
    refine nx_block_normal <| Zx <| Zq <| Zg <| Zl isAgg9 Y ?_
    refine Za Y <| Z0 <| Zx <| at_ret ?_
    refine nx_endM1 rfl (res1 results22 Y) (by repeat (first | exact One.here _ _ | apply One.there)) (by exact ⟨by rw [fold_bwd, fold_rev, hB.root, ← hf]; simp, rfl⟩)

end Go.Proofs.YtjeepldonhgohaaGreatDoor
