/- The reference of layer 22: apply, Visible, Write, Sync, Read, New. The reference of layer 22 over plain states. -/
import Derived.Test.YthbadolcncojbaaGreatDoorEz
import Derived.Test.YthbadolcncojbaaGreatDoorJm4
import Derived.Test.YthbadolcncojbaaGreatDoorLw3
import Derived.Test.YthbadolcncojbaaGreatDoorSn2
import Derived.Test.YthbadolcncojbaaGreatDoorEx11

namespace Go.Proofs.YthbadolcncojbaaGreatDoor
open Go.Proofs.Tryz
open Go Go.RowKit Gw
set_option linter.unusedVariables false
set_option maxRecDepth 100000
attribute [local irreducible] Gw.At Gw.Nx Gw.Ops
/-- What is visible: the writes that are pending, one over another. -/
def vis (du : List UInt8) (l : List (Nat × List UInt8)) : List UInt8 := l.foldl (fun b p => splice b p.1 p.2) du
theorem vis_snoc (du : List UInt8) (l : List (Nat × List UInt8)) (p : Nat × List UInt8) : vis du (l ++ [p]) = splice (vis du l) p.1 p.2 := by simp [vis]
theorem vis_len (du : List UInt8) (l : List (Nat × List UInt8)) (h : ∀ p ∈ l, p.1 + p.2.length ≤ du.length) : (vis du l).length = du.length := by
  induction l generalizing du with
  | nil => rfl
  | cons p l ih =>
    have h1 := splice_len du p.1 p.2 (h p (by simp))
    show (vis (splice du p.1 p.2) l).length = _
    rw [ih _ (fun q hq => by rw [h1]; exact h q (by simp [hq])), h1]
theorem splice_set (l s : List UInt8) (o i : Nat) (b : UInt8) (hs : s[i]? = some b) (h : o + s.length ≤ l.length) : splice l o (s.take (i + 1)) = (splice l o (s.take i)).set (o + i) b := by
  have hi := (List.getElem?_eq_some_iff.1 hs).1
  have ht : (s.take i).length = i := by rw [List.length_take]; omega
  have ht1 : (s.take (i + 1)).length = i + 1 := by rw [List.length_take]; omega
  have hd : l.drop (o + i) = l[o + i]'(by omega) :: l.drop (o + i + 1) := List.drop_eq_getElem_cons (by omega)
  have hto : (l.take o).length = o := by rw [List.length_take]; omega
  unfold splice
  rw [ht, ht1, List.take_add_one, hs, hd, ← Nat.add_assoc]
  rw [List.set_append_right _ _ (by rw [List.length_append, hto, ht]; omega)]
  rw [List.length_append, hto, ht, Nat.sub_self, List.set_cons_zero]
  simp
theorem splice_zero (l : List UInt8) (o : Nat) : splice l o [] = l := by unfold splice; simp
theorem pend_off {l : List (Nat × List UInt8)} {i : Nat} {p : Nat × List UInt8} (h : l[i]? = some p) : (pendC l)[i * 2]? = some (.int .i64 (p.1 : Int)) ∧ (pendC l)[i * 2 + 1]? = some (.string (str p.2)) := by
  induction l generalizing i with
  | nil => cases h
  | cons a l ih =>
    cases i with
    | zero =>
      simp only [List.getElem?_cons_zero, Option.some.injEq] at h
      subst h
      exact ⟨rfl, rfl⟩
    | succ i =>
      rw [List.getElem?_cons_succ] at h
      obtain ⟨h1, h2⟩ := ih h
      have e : pendC (a :: l) = .int .i64 (a.1 : Int) :: .string (str a.2) :: pendC l := rfl
      rw [e, show (i + 1) * 2 = i * 2 + 1 + 1 by omega]
      exact ⟨h1, h2⟩
theorem rowS_at {sz : Nat} {e : TypeId} {v : Value} {k : Nat} {xs : List Value} {s : List Chunk} (h : RowS sz e v k xs s) (hk : 0 < k) : ∃ g cap cur z, v = .slice (some ⟨g, 0, none⟩) k cap ∧ s = [(g, .cells cur e z)] ∧ k ≤ cap ∧ ∀ (j : Nat) (x : Value), xs[j]? = some x → cur[j]? = some x := by
  obtain ⟨hl, ⟨_, h2, _⟩ | ⟨g, cap, cur, z, rfl, rfl, hle, hcm, hcs, htk, hfr⟩⟩ := h
  · omega
  · refine ⟨g, cap, cur, z, rfl, rfl, hle, fun j x hx => ?_⟩
    have hj := (List.getElem?_eq_some_iff.1 hx).1
    rw [← Array.getElem?_toList]
    rw [← htk, List.getElem?_take] at hx
    split at hx
    · exact hx
    · cases hx
theorem cut_from (b o cap n m : Nat) (h : o < cap) (e : n = m) : Value.slice (cutAt (some ⟨b, 0, none⟩) o cap 1) n (cap - o) = .slice (some ⟨b, o, none⟩) m (cap - o) := by
  subst e
  unfold cutAt
  rw [if_neg (by omega), Option.map_some, add_addr, Nat.mul_one, Nat.zero_add]

theorem apply_spec {v : Value} {l s : List UInt8} {sv : List Chunk} (hr : Row 5 v (l.map u8v) sv) (o : Nat) (h : o + s.length ≤ l.length) (hl : l.length ≤ 4194304) :
    Does Tryz.prog 117 #[v, .int .i64 (o : Int), .string (str s)] [sv] (fun r H' => ∃ sv', r = .tuple #[] ∧ Row 5 v ((splice l o s).map u8v) sv' ∧ H' = [sv']) := by
 have hss := str_size s
 refine spec_enter func117 rfl ntmps117 rfl ?_
 intro u R
 refine Zb [0, 1, 2] ?_
 refine Zq <| Zg <| Za Y <| Z0 <| Zx <| at_block <| Zb [6, 0, 1, 2] ?_
 refine at_loopB (e0 := [(6, _)]) (H0 := _) (n := _) (fun m e H => ∃ (i : Nat) (sv : List Chunk), m = s.length - i ∧ (i ≤ s.length ∧ Row 5 v ((splice l o (s.take i)).map u8v) sv) ∧ e = [(6, .int .i64 (i : Int))] ∧ H = [sv]) (by exact ⟨0, _, rfl, ⟨Nat.zero_le _, by rw [List.take_zero, splice_zero]; exact hr⟩, rfl, rfl⟩) (by repeat (first | exact Pull.nil _ | (apply Pull.cons; (focus (repeat (first | exact One.here _ _ | apply One.there)))))) ?_
 rintro _ _ _ ⟨i, sv, rfl, ⟨hi, hrv⟩, rfl, rfl⟩
 refine Zq <| Zq <| Zg <| Zm Y <| Zm Y <| Zv (p_len_str underlying9 Y) ?_
 first | refine op_v (p_lss_nat Y Y) ?_ | refine op_v (p_lss Y Y) ?_
 refine Z0 <| Zx ?_
 first | refine at_if Y (fun hlt => ?_) (fun hlt => ?_) | refine at_if_bool Y (fun hlt => ?_) (fun hlt => ?_)
 ·
  refine at_skip <| Zx <| Zq <| at_block ?_
  have hby := byte_get s i (by omega)
  have hsl : (splice l o (s.take i)).length = l.length := splice_len _ _ _ (by rw [List.length_take]; omega)
  obtain ⟨gb, capb, curb, zb, rfl, rfl, hkb, hfb, hset⟩ := row_set (k := o + i) hrv (by rw [List.length_map, hsl]; omega)
  refine Zg <| Zm Y <| Zm Y <| Zm Y ?_
  first | (refine op_v (p_add_nat Y Y ?_) ?_; (focus (omega))) | (refine op_v (p_add Y Y (IntWalk.i64_in _ ?_)) ?_; (focus (omega)))
  refine Zm Y <| Zm Y ?_
  (refine op_v (p_index_str underlying9 Y Y (byteAt_get _ _ ?_)) ?_; (focus (first | (rw [List.length_map, hsl]; omega) | omega)))
  first | (refine op_v (p_indexAddr_nat0 underlying36 sizeOf5 Y Y ?_) ?_; (focus (first | (rw [List.length_map, hsl]; omega) | omega))) | (refine op_v (p_indexAddr_nat1 underlying36 sizeOf5 Y Y ?_) ?_; (focus (first | (rw [List.length_map, hsl]; omega) | omega)))
  refine Ze (Zs sizeOf5 Y Y rfl (hi := by first | (rw [List.length_map, hsl]; omega) | omega) (hz := by exact hfb)) ?_
  rintro _ _ ⟨rfl, rfl⟩
  refine Z0 <| Zn [0, 1, 2, 6] ?_
  refine nx_block_normal <| Zx <| Zg <| Zm Y ?_
  first | (refine op_v (p_add_nat (n := 1) Y Y ?_) ?_; (focus (omega))) | (refine op_v (p_add Y Y (IntWalk.i64_in _ ?_)) ?_; (focus (omega)))
  refine Za Y <| Z0 <| Zn [6, 0, 1, 2] ?_
  refine nx_againB (e' := [(6, _)]) (m := _) (H' := _) (by exact ⟨i + 1, _, rfl, ⟨by omega, by rw [splice_set l s o i _ hby h, List.map_set]; exact hset _⟩, rfl, rfl⟩)
 ·
  have ei : s.take i = s := List.take_of_length_le (by omega)
  rw [ei] at hrv
  refine at_exit <| Zt <| Zt <| nx_block_exit ?_
  refine nx_end0 rfl results117 (by exact ⟨_, rfl, hrv, rfl⟩)

theorem rvis_spec (off : Bool) {v pv : Value} {du : List UInt8} {l : List (Nat × List UInt8)} {sv sp : List Chunk} (rp left : Nat) (hr : Row 5 v (du.map u8v) sv) (hp : RowS 2 142 pv l.length (pendC l) sp) (hin : ∀ p ∈ l, p.1 + p.2.length ≤ du.length) (hd : du.length ≤ 4194304) (h0 : 1 ≤ du.length) (hl : l.length ≤ 1000000) :
    Does Tryz.prog 64 #[.pointer (some ⟨rp, 0, none⟩)] [[(rp, .cells #[v, pv, .bool off, .int .i64 (left : Int)] 136 (0, 0))], sv, sp] (fun r H' => ∃ s2, Row 5 r ((vis du l).map u8v) s2 ∧ H' = [[(rp, .cells #[v, pv, .bool off, .int .i64 (left : Int)] 136 (0, 0))], sv, sp, s2]) := by
 have hml : maxLen = 9223372036854775807 := rfl
 obtain ⟨b0, c0, hv0⟩ := hr.form
 rw [List.length_map] at hv0
 subst hv0
 obtain ⟨b1, c1, rfl⟩ := hp.form
 refine spec_enter func64 rfl ntmps64 rfl ?_
 intro u R
 refine Zb [0] ?_
 refine Zq <| Zg <| Za Y <| Z0 <| Zx <| Zq <| Zg <| Ze (w_buildSlice0 underlying36 sizeOf5) ?_
 rintro _ _ ⟨ge, rfl, rfl⟩
 refine Zm Y <| Zp Y rfl <| Zh 0 underlying136 rfl rfl sizeOf36 Y <| Zl isAgg36 Y ?_
 refine Ze (w_append_row (by_ := 1) underlying36 (rfl : Tryz.prog.info? 5 = some Tryz.t5) rfl rfl rfl rfl Y (row_new _ ge [] 0 rfl (Nat.zero_le _)) Y (hr) (by repeat (first | exact One.here _ _ | apply One.there)) (by repeat (first | exact One.here _ _ | apply One.there)) (by simp [Value.oneCell', u8v]) (by (simp only [List.length_map, List.length_nil]; omega)) (by (simp only [List.length_map, List.length_nil]; omega))) ?_
 rintro _ _ ⟨sw, hrw, rfl⟩
 rw [List.nil_append] at hrw
 obtain ⟨gw, cw, rfl⟩ := hrw.form
 refine Za Y <| Z0 <| Zx <| Zq <| Zq <| Zg <| Za Y <| Z0 <| Zx <| at_block <| Zb [4, 0, 3] ?_
 refine at_loopB (e0 := [(4, _)]) (H0 := _) (n := _) (fun m e H => ∃ (i : Nat) (s2 : List Chunk), m = l.length - i ∧ (i ≤ l.length ∧ Row 5 (.slice gw (List.map u8v du).length cw) ((vis du (l.take i)).map u8v) s2) ∧ e = [(4, .int .i64 (i : Int))] ∧ H = [s2]) (by exact ⟨0, _, rfl, ⟨Nat.zero_le _, hrw⟩, rfl, rfl⟩) (by repeat (first | exact Pull.nil _ | (apply Pull.cons; (focus (repeat (first | exact One.here _ _ | apply One.there)))))) ?_
 rintro _ _ _ ⟨i, s2, rfl, ⟨hi, hrv⟩, rfl, rfl⟩
 refine Zq <| Zq <| Zg <| Zm Y <| Zm Y <| Zp Y rfl <| Zh 1 underlying136 rfl rfl sizeOf134 Y <| Zl isAgg134 Y ?_
 refine Zv (p_len_slice underlying134 Y) ?_
 first | refine op_v (p_lss_nat Y Y) ?_ | refine op_v (p_lss Y Y) ?_
 refine Z0 <| Zx ?_
 first | refine at_if Y (fun hlt => ?_) (fun hlt => ?_) | refine at_if_bool Y (fun hlt => ?_) (fun hlt => ?_)
 ·
  refine at_skip <| Zx <| Zq <| at_block ?_
  obtain ⟨x, hx⟩ : ∃ x, l[i]? = some x := ⟨_, List.getElem?_eq_getElem hlt⟩
  have hxi := hin x (List.mem_of_getElem? hx)
  have hvl := vis_len du (l.take i) (fun p hp => hin p (List.mem_of_mem_take hp))
  obtain ⟨hc1, hc2⟩ := pend_off hx
  obtain ⟨g1, cap1, cur1, z1, hv1, rfl, hle1, hget1⟩ := rowS_at hp (by omega)
  injection hv1 with e1 e2 e3
  subst e1 e3
  have hd1 := hget1 _ _ hc1
  have hd2 := hget1 _ _ hc2
  rw [show i * 2 = 0 + i * 2 by omega] at hd1
  rw [show i * 2 + 1 = 0 + i * 2 + 1 by omega] at hd2
  refine at_draw (n := 18) (0 :: 0 :: 2 :: 6 :: 14 :: 0 :: 62 :: 126 :: 254 :: 0 :: 512 :: 1536 :: 3584 :: 0 :: 15872 :: 32256 :: 65024 :: 131071 :: []) 131072 (by kernel_rfl) (by kernel_rfl) rfl ?_
  refine Zi 1 0 rfl (p_move Y) <| Zi 3 1 rfl (p_move Y) <| Zi 7 2 rfl (p_nilChk Y rfl) <| Zi 15 3 rfl (p_fieldAddr0 (off := 1) underlying136 rfl rfl sizeOf134 Y) <| Zj 31 4 rfl isAgg134 Y ?_
  refine Zi 63 5 rfl (p_move Y) ?_
  (refine lin_v (D' := 127) 6 (p_indexAddr_nat underlying134 sizeOf142 Y Y ?_) ?_; (focus (omega)))
  refine Zi 255 7 rfl (p_fieldAddr1 (off := 0) underlying142 rfl rfl sizeOf3 Y) <| Zj 511 8 rfl isAgg3 Y (hv := by exact hd1) ?_
  refine Zi 1023 9 rfl (p_move Y) <| Zi 2047 10 rfl (p_nilChk Y rfl) <| Zi 4095 11 rfl (p_fieldAddr0 (off := 1) underlying136 rfl rfl sizeOf134 Y) <| Zj 8191 12 rfl isAgg134 Y ?_
  refine Zi 16383 13 rfl (p_move Y) ?_
  (refine lin_v (D' := 32767) 14 (p_indexAddr_nat underlying134 sizeOf142 Y Y ?_) ?_; (focus (omega)))
  refine Zi 65535 15 rfl (p_fieldAddr1 (off := 1) underlying142 rfl rfl sizeOf9 Y) <| Zj 131071 16 rfl isAgg9 Y (hv := by exact hd2) ?_
  refine Zz (l := [17]) ?_
  refine Zy 131071 262143 [16, 12, 8, 4] [false, false, false, false] [] rfl Y rfl rfl rfl rfl (Zw [_, _, _] Y call117 Y rfl (apply_spec hrv x.1 (by rw [hvl]; exact hxi) (by rw [hvl]; exact hd))) ?hk_2 no_pan ?hl_2
  case hk_2 =>
   rintro _ _ ⟨_, ⟨sq, rfl, hrq, rfl⟩, rfl⟩
   refine ⟨keep_nil, ?_⟩
   refine lin_nil ?_
   refine Zn [0, 3, 4] ?_
   refine nx_block_normal <| Zx <| Zg <| Zm Y ?_
   first | (refine op_v (p_add_nat (n := 1) Y Y ?_) ?_; (focus (omega))) | (refine op_v (p_add Y Y (IntWalk.i64_in _ ?_)) ?_; (focus (omega)))
   refine Za Y <| Z0 <| Zn [4, 0, 3] ?_
   refine nx_againB (e' := [(4, _)]) (m := _) (H' := _) (by exact ⟨i + 1, _, rfl, ⟨by omega, by rw [List.take_add_one, hx]; show Row _ _ ((vis du (l.take i ++ [x])).map u8v) _; rw [vis_snoc]; exact hrq⟩, rfl, rfl⟩)
  case hl_2 =>
   exact each_nil
 ·
  have ei : l.take i = l := List.take_of_length_le (by omega)
  rw [ei] at hrv
  refine at_exit <| Zt <| Zt <| nx_block_exit <| Zx <| Zq <| Zg <| Zm Y <| Za Y <| Z0 <| Zx <| at_ret ?_
  refine nx_end1 rfl results64 Y (by exact ⟨_, hrv, rfl⟩)

theorem rwrite0 {v pv : Value} {du : List UInt8} {l : List (Nat × List UInt8)} {sv sp : List Chunk} (rp : Nat) (hr : Row 5 v (du.map u8v) sv) (hp : RowS 2 142 pv l.length (pendC l) sp) (hin : ∀ p ∈ l, p.1 + p.2.length ≤ du.length) (hd : du.length ≤ 4194304) (h0 : 1 ≤ du.length) (hl : l.length ≤ 1000000) (o : Nat) (s : List UInt8) (h : o + s.length ≤ du.length) : Does Tryz.prog 22 #[.pointer (some ⟨rp, 0, none⟩), .int .i64 (o : Int), .string (str s)] [[(rp, .cells #[v, pv, .bool false, .int .i64 ((0 : Nat) : Int)] 136 (0, 0))], sv, sp] (fun r H' => ∃ pv' sp', r = .int .i64 0 ∧ RowS 2 142 pv' (l.length + 1) (pendC l ++ [.int .i64 (o : Int), .string (str s)]) sp' ∧ H' = [[(rp, .cells #[v, pv', .bool (usedOff false (0 : Nat)), .int .i64 ((usedLeft (0 : Nat) : Nat) : Int)] 136 (0, 0))], sv, sp']) := by
 have hml : maxLen = 9223372036854775807 := rfl
 obtain ⟨b0, c0, hv0⟩ := hr.form
 rw [List.length_map] at hv0
 subst hv0
 obtain ⟨b1, c1, rfl⟩ := hp.form
 have hss := str_size s
 refine spec_enter func22 rfl ntmps22 rfl ?_
 intro u R
 refine Zb [0, 1, 2] ?_
 refine Zq <| Zg <| Za Y <| Z0 <| Zx <| Zq <| Zq <| Zg <| Zm Y <| Zp Y rfl <| Zh 2 underlying136 rfl rfl sizeOf4 Y <| Zl isAgg4 Y ?_
 refine Z0 <| Zx ?_
 refine at_if_bool Y (fun hc1 => ?_) (fun hc1 => ?_)
 ·
  cases hc1
 ·
  refine at_skip <| Zx <| Zq <| Zq <| Zg <| Zm Y ?_
  first | refine op_v (p_lss_nat (n := 0) Y Y) ?_ | refine op_v (p_lss Y Y) ?_
  refine Zm Y ?_
  first | refine ops_split (t := 13) Y rfl (fun hc2 => ?_) (fun hc2 => ?_) | refine ops_split_bool (t := 13) Y rfl (fun hc2 => ?_) (fun hc2 => ?_)
  ·
   exfalso; omega
  ·
   refine Zf Y Y <| Zf Y Y <| op_wg Y (p_nilChk Y rfl) rfl rfl ?_
   refine op_wg Y (p_fieldAddr0 (off := 0) underlying136 rfl rfl sizeOf36 Y) rfl rfl ?_
   refine op_rg Y (by repeat (first | exact Has.here _ | apply Has.there)) (p_load isAgg36 Y (by rfl)) rfl rfl ?_
   refine op_wg Y (p_len_slice underlying36 Y) rfl rfl ?_
   first | refine op_wg Y (p_gtr_nat Y Y) rfl rfl ?_ | refine op_wg Y (p_gtr Y Y) rfl rfl ?_
   refine Zv (p_pick_f Y Y) <| Zm Y ?_
   first | refine ops_split (t := 22) Y rfl (fun hc3 => ?_) (fun hc3 => ?_) | refine ops_split_bool (t := 22) Y rfl (fun hc3 => ?_) (fun hc3 => ?_)
   ·
    exfalso; omega
   ·
    refine Zf Y Y <| op_wg Y (p_len_str underlying9 Y) rfl rfl ?_
    refine Zf Y Y <| op_wg Y (p_nilChk Y rfl) rfl rfl ?_
    refine op_wg Y (p_fieldAddr0 (off := 0) underlying136 rfl rfl sizeOf36 Y) rfl rfl ?_
    refine op_rg Y (by repeat (first | exact Has.here _ | apply Has.there)) (p_load isAgg36 Y (by rfl)) rfl rfl ?_
    refine op_wg Y (p_len_slice underlying36 Y) rfl rfl ?_
    refine Zf Y Y ?_
    first | (refine op_wg Y (p_sub_nat Y Y ?_ ?_) rfl rfl ?_; (focus (omega)); (focus (omega))) | (refine op_wg Y (p_sub Y Y (IntWalk.i64_in _ ?_)) rfl rfl ?_; (focus (omega)))
    first | refine op_wg Y (p_gtr_nat Y Y) rfl rfl ?_ | refine op_wg Y (p_gtr Y Y) rfl rfl ?_
    refine Zv (p_pick_f Y Y) <| Z0 <| Zn [0, 1, 2, 33] ?_
    refine Zx ?_
    first | refine at_if Y (fun hc4 => ?_) (fun hc4 => ?_) | refine at_if_bool Y (fun hc4 => ?_) (fun hc4 => ?_)
    ·
     exfalso; omega
    ·
     refine at_skip <| Zx <| Zq <| Zg <| Zm Y <| Zm Y <| Zp Y rfl <| Zh 1 underlying136 rfl rfl sizeOf134 Y <| Zl isAgg134 Y ?_
     refine Zm Y <| Zm Y <| Zv (p_build (vs := [(0, _), (1, _)]) (cs := #[_, _]) Y (run_build_struct (pl := #[(0, 1), (1, 1)]) zeroValue142 underlying142 (fun _ => by kernel_rfl) rfl)) ?_
     refine Ze (w_buildSlice (vs := [_]) (cs := [_, _]) underlying134 sizeOf142 zeroValue142 Y rfl rfl rfl rfl rfl) ?_
     rintro _ _ ⟨g5, rfl, rfl⟩
     refine Ze (w_appendS (by_ := 24) (sz := 2) (news := [_, _]) underlying134 (rfl : Tryz.prog.info? 142 = some Tryz.t142) rfl rfl rfl rfl Y hp Y (by repeat (first | exact One.here _ _ | apply One.there)) (by repeat (first | exact Has.here _ | apply Has.there)) (by rfl) rfl (by simp [Value.oneCell', Value.cells]) (by decide) (by omega) (by omega)) ?_
     rintro _ _ ⟨sq, hrq, rfl⟩
     obtain ⟨gq, cq, rfl⟩ := hrq.form
     refine Zp Y rfl <| Zh 1 underlying136 rfl rfl sizeOf134 Y <| Ze (Zs sizeOf134 Y Y rfl) ?_
     rintro _ _ ⟨rfl, rfl⟩
     refine Z0 <| Zn [0] ?_
     refine Zx <| Zq <| Zq <| Zg <| Zm Y <| Zp Y rfl <| Zh 3 underlying136 rfl rfl sizeOf3 Y <| Zl isAgg3 Y ?_
     first | refine op_v (p_gtr_nat (n := 0) Y Y) ?_ | refine op_v (p_gtr Y Y) ?_
     refine Z0 <| Zx ?_
     first | refine at_if Y (fun hc5 => ?_) (fun hc5 => ?_) | refine at_if_bool Y (fun hc5 => ?_) (fun hc5 => ?_)
     ·
      exfalso; omega
     ·
      refine at_skip <| Zx <| Zq <| Zg <| Za Y <| Z0 <| Zx <| at_ret ?_
      refine nx_end1 rfl results22 Y (by exact ⟨_, sq, rfl, hrq, rfl⟩)

theorem rwrite1 {v pv : Value} {du : List UInt8} {l : List (Nat × List UInt8)} {sv sp : List Chunk} (rp : Nat) (hr : Row 5 v (du.map u8v) sv) (hp : RowS 2 142 pv l.length (pendC l) sp) (hin : ∀ p ∈ l, p.1 + p.2.length ≤ du.length) (hd : du.length ≤ 4194304) (h0 : 1 ≤ du.length) (hl : l.length ≤ 1000000) (o : Nat) (s : List UInt8) (h : o + s.length ≤ du.length) : Does Tryz.prog 22 #[.pointer (some ⟨rp, 0, none⟩), .int .i64 (o : Int), .string (str s)] [[(rp, .cells #[v, pv, .bool false, .int .i64 ((1 : Nat) : Int)] 136 (0, 0))], sv, sp] (fun r H' => ∃ pv' sp', r = .int .i64 0 ∧ RowS 2 142 pv' (l.length + 1) (pendC l ++ [.int .i64 (o : Int), .string (str s)]) sp' ∧ H' = [[(rp, .cells #[v, pv', .bool (usedOff false (1 : Nat)), .int .i64 ((usedLeft (1 : Nat) : Nat) : Int)] 136 (0, 0))], sv, sp']) := by
 have hml : maxLen = 9223372036854775807 := rfl
 obtain ⟨b0, c0, hv0⟩ := hr.form
 rw [List.length_map] at hv0
 subst hv0
 obtain ⟨b1, c1, rfl⟩ := hp.form
 have hss := str_size s
 refine spec_enter func22 rfl ntmps22 rfl ?_
 intro u R
 refine Zb [0, 1, 2] ?_
 refine Zq <| Zg <| Za Y <| Z0 <| Zx <| Zq <| Zq <| Zg <| Zm Y <| Zp Y rfl <| Zh 2 underlying136 rfl rfl sizeOf4 Y <| Zl isAgg4 Y ?_
 refine Z0 <| Zx ?_
 refine at_if_bool Y (fun hc1 => ?_) (fun hc1 => ?_)
 ·
  cases hc1
 ·
  refine at_skip <| Zx <| Zq <| Zq <| Zg <| Zm Y ?_
  first | refine op_v (p_lss_nat (n := 0) Y Y) ?_ | refine op_v (p_lss Y Y) ?_
  refine Zm Y ?_
  first | refine ops_split (t := 13) Y rfl (fun hc2 => ?_) (fun hc2 => ?_) | refine ops_split_bool (t := 13) Y rfl (fun hc2 => ?_) (fun hc2 => ?_)
  ·
   exfalso; omega
  ·
   refine Zf Y Y <| Zf Y Y <| op_wg Y (p_nilChk Y rfl) rfl rfl ?_
   refine op_wg Y (p_fieldAddr0 (off := 0) underlying136 rfl rfl sizeOf36 Y) rfl rfl ?_
   refine op_rg Y (by repeat (first | exact Has.here _ | apply Has.there)) (p_load isAgg36 Y (by rfl)) rfl rfl ?_
   refine op_wg Y (p_len_slice underlying36 Y) rfl rfl ?_
   first | refine op_wg Y (p_gtr_nat Y Y) rfl rfl ?_ | refine op_wg Y (p_gtr Y Y) rfl rfl ?_
   refine Zv (p_pick_f Y Y) <| Zm Y ?_
   first | refine ops_split (t := 22) Y rfl (fun hc3 => ?_) (fun hc3 => ?_) | refine ops_split_bool (t := 22) Y rfl (fun hc3 => ?_) (fun hc3 => ?_)
   ·
    exfalso; omega
   ·
    refine Zf Y Y <| op_wg Y (p_len_str underlying9 Y) rfl rfl ?_
    refine Zf Y Y <| op_wg Y (p_nilChk Y rfl) rfl rfl ?_
    refine op_wg Y (p_fieldAddr0 (off := 0) underlying136 rfl rfl sizeOf36 Y) rfl rfl ?_
    refine op_rg Y (by repeat (first | exact Has.here _ | apply Has.there)) (p_load isAgg36 Y (by rfl)) rfl rfl ?_
    refine op_wg Y (p_len_slice underlying36 Y) rfl rfl ?_
    refine Zf Y Y ?_
    first | (refine op_wg Y (p_sub_nat Y Y ?_ ?_) rfl rfl ?_; (focus (omega)); (focus (omega))) | (refine op_wg Y (p_sub Y Y (IntWalk.i64_in _ ?_)) rfl rfl ?_; (focus (omega)))
    first | refine op_wg Y (p_gtr_nat Y Y) rfl rfl ?_ | refine op_wg Y (p_gtr Y Y) rfl rfl ?_
    refine Zv (p_pick_f Y Y) <| Z0 <| Zn [0, 1, 2, 33] ?_
    refine Zx ?_
    first | refine at_if Y (fun hc4 => ?_) (fun hc4 => ?_) | refine at_if_bool Y (fun hc4 => ?_) (fun hc4 => ?_)
    ·
     exfalso; omega
    ·
     refine at_skip <| Zx <| Zq <| Zg <| Zm Y <| Zm Y <| Zp Y rfl <| Zh 1 underlying136 rfl rfl sizeOf134 Y <| Zl isAgg134 Y ?_
     refine Zm Y <| Zm Y <| Zv (p_build (vs := [(0, _), (1, _)]) (cs := #[_, _]) Y (run_build_struct (pl := #[(0, 1), (1, 1)]) zeroValue142 underlying142 (fun _ => by kernel_rfl) rfl)) ?_
     refine Ze (w_buildSlice (vs := [_]) (cs := [_, _]) underlying134 sizeOf142 zeroValue142 Y rfl rfl rfl rfl rfl) ?_
     rintro _ _ ⟨g5, rfl, rfl⟩
     refine Ze (w_appendS (by_ := 24) (sz := 2) (news := [_, _]) underlying134 (rfl : Tryz.prog.info? 142 = some Tryz.t142) rfl rfl rfl rfl Y hp Y (by repeat (first | exact One.here _ _ | apply One.there)) (by repeat (first | exact Has.here _ | apply Has.there)) (by rfl) rfl (by simp [Value.oneCell', Value.cells]) (by decide) (by omega) (by omega)) ?_
     rintro _ _ ⟨sq, hrq, rfl⟩
     obtain ⟨gq, cq, rfl⟩ := hrq.form
     refine Zp Y rfl <| Zh 1 underlying136 rfl rfl sizeOf134 Y <| Ze (Zs sizeOf134 Y Y rfl) ?_
     rintro _ _ ⟨rfl, rfl⟩
     refine Z0 <| Zn [0] ?_
     refine Zx <| Zq <| Zq <| Zg <| Zm Y <| Zp Y rfl <| Zh 3 underlying136 rfl rfl sizeOf3 Y <| Zl isAgg3 Y ?_
     first | refine op_v (p_gtr_nat (n := 0) Y Y) ?_ | refine op_v (p_gtr Y Y) ?_
     refine Z0 <| Zx ?_
     first | refine at_if Y (fun hc5 => ?_) (fun hc5 => ?_) | refine at_if_bool Y (fun hc5 => ?_) (fun hc5 => ?_)
     ·
      refine Zq <| Zg <| Zm Y <| Zp Y rfl <| Zh 3 underlying136 rfl rfl sizeOf3 Y <| Zl isAgg3 Y ?_
      first | (refine op_v (p_sub_nat (n := 1) Y Y ?_ ?_) ?_; (focus (omega)); (focus (omega))) | (refine op_v (p_sub Y Y (IntWalk.i64_in _ ?_)) ?_; (focus (omega)))
      refine Zp Y rfl <| Zh 3 underlying136 rfl rfl sizeOf3 Y <| Ze (Zs sizeOf3 Y Y rfl) ?_
      rintro _ _ ⟨rfl, rfl⟩
      refine Z0 <| Zn [0] ?_
      refine Zx <| Zq <| Zg <| Zm Y <| Zp Y rfl <| Zh 3 underlying136 rfl rfl sizeOf3 Y <| Zl isAgg3 Y ?_
      first | refine op_v (p_eql_nat (n := 0) Y Y) ?_ | refine op_v (p_eql Y Y) ?_
      refine Z0 <| Zx ?_
      first | refine at_if Y (fun hc6 => ?_) (fun hc6 => ?_) | refine at_if_bool Y (fun hc6 => ?_) (fun hc6 => ?_)
      ·
       refine Zg <| Zm Y <| Zp Y rfl <| Zh 2 underlying136 rfl rfl sizeOf4 Y <| Ze (Zs sizeOf4 Y Y rfl) ?_
       rintro _ _ ⟨rfl, rfl⟩
       refine Z0 <| Zx <| Zq <| Zg <| Za Y <| Z0 <| Zx <| at_ret ?_
       refine nx_end1 rfl results22 Y (by exact ⟨_, sq, rfl, hrq, rfl⟩)
      ·
       exfalso; omega
     ·
      exfalso; omega

theorem rwrite2 (m : Nat) (hm : m ≤ 4194304) {v pv : Value} {du : List UInt8} {l : List (Nat × List UInt8)} {sv sp : List Chunk} (rp : Nat) (hr : Row 5 v (du.map u8v) sv) (hp : RowS 2 142 pv l.length (pendC l) sp) (hin : ∀ p ∈ l, p.1 + p.2.length ≤ du.length) (hd : du.length ≤ 4194304) (h0 : 1 ≤ du.length) (hl : l.length ≤ 1000000) (o : Nat) (s : List UInt8) (h : o + s.length ≤ du.length) : Does Tryz.prog 22 #[.pointer (some ⟨rp, 0, none⟩), .int .i64 (o : Int), .string (str s)] [[(rp, .cells #[v, pv, .bool false, .int .i64 ((m + 2 : Nat) : Int)] 136 (0, 0))], sv, sp] (fun r H' => ∃ pv' sp', r = .int .i64 0 ∧ RowS 2 142 pv' (l.length + 1) (pendC l ++ [.int .i64 (o : Int), .string (str s)]) sp' ∧ H' = [[(rp, .cells #[v, pv', .bool (usedOff false (m + 2 : Nat)), .int .i64 ((usedLeft (m + 2 : Nat) : Nat) : Int)] 136 (0, 0))], sv, sp']) := by
 have hml : maxLen = 9223372036854775807 := rfl
 obtain ⟨b0, c0, hv0⟩ := hr.form
 rw [List.length_map] at hv0
 subst hv0
 obtain ⟨b1, c1, rfl⟩ := hp.form
 have hss := str_size s
 refine spec_enter func22 rfl ntmps22 rfl ?_
 intro u R
 refine Zb [0, 1, 2] ?_
 refine Zq <| Zg <| Za Y <| Z0 <| Zx <| Zq <| Zq <| Zg <| Zm Y <| Zp Y rfl <| Zh 2 underlying136 rfl rfl sizeOf4 Y <| Zl isAgg4 Y ?_
 refine Z0 <| Zx ?_
 refine at_if_bool Y (fun hc1 => ?_) (fun hc1 => ?_)
 ·
  cases hc1
 ·
  refine at_skip <| Zx <| Zq <| Zq <| Zg <| Zm Y ?_
  first | refine op_v (p_lss_nat (n := 0) Y Y) ?_ | refine op_v (p_lss Y Y) ?_
  refine Zm Y ?_
  first | refine ops_split (t := 13) Y rfl (fun hc2 => ?_) (fun hc2 => ?_) | refine ops_split_bool (t := 13) Y rfl (fun hc2 => ?_) (fun hc2 => ?_)
  ·
   exfalso; omega
  ·
   refine Zf Y Y <| Zf Y Y <| op_wg Y (p_nilChk Y rfl) rfl rfl ?_
   refine op_wg Y (p_fieldAddr0 (off := 0) underlying136 rfl rfl sizeOf36 Y) rfl rfl ?_
   refine op_rg Y (by repeat (first | exact Has.here _ | apply Has.there)) (p_load isAgg36 Y (by rfl)) rfl rfl ?_
   refine op_wg Y (p_len_slice underlying36 Y) rfl rfl ?_
   first | refine op_wg Y (p_gtr_nat Y Y) rfl rfl ?_ | refine op_wg Y (p_gtr Y Y) rfl rfl ?_
   refine Zv (p_pick_f Y Y) <| Zm Y ?_
   first | refine ops_split (t := 22) Y rfl (fun hc3 => ?_) (fun hc3 => ?_) | refine ops_split_bool (t := 22) Y rfl (fun hc3 => ?_) (fun hc3 => ?_)
   ·
    exfalso; omega
   ·
    refine Zf Y Y <| op_wg Y (p_len_str underlying9 Y) rfl rfl ?_
    refine Zf Y Y <| op_wg Y (p_nilChk Y rfl) rfl rfl ?_
    refine op_wg Y (p_fieldAddr0 (off := 0) underlying136 rfl rfl sizeOf36 Y) rfl rfl ?_
    refine op_rg Y (by repeat (first | exact Has.here _ | apply Has.there)) (p_load isAgg36 Y (by rfl)) rfl rfl ?_
    refine op_wg Y (p_len_slice underlying36 Y) rfl rfl ?_
    refine Zf Y Y ?_
    first | (refine op_wg Y (p_sub_nat Y Y ?_ ?_) rfl rfl ?_; (focus (omega)); (focus (omega))) | (refine op_wg Y (p_sub Y Y (IntWalk.i64_in _ ?_)) rfl rfl ?_; (focus (omega)))
    first | refine op_wg Y (p_gtr_nat Y Y) rfl rfl ?_ | refine op_wg Y (p_gtr Y Y) rfl rfl ?_
    refine Zv (p_pick_f Y Y) <| Z0 <| Zn [0, 1, 2, 33] ?_
    refine Zx ?_
    first | refine at_if Y (fun hc4 => ?_) (fun hc4 => ?_) | refine at_if_bool Y (fun hc4 => ?_) (fun hc4 => ?_)
    ·
     exfalso; omega
    ·
     refine at_skip <| Zx <| Zq <| Zg <| Zm Y <| Zm Y <| Zp Y rfl <| Zh 1 underlying136 rfl rfl sizeOf134 Y <| Zl isAgg134 Y ?_
     refine Zm Y <| Zm Y <| Zv (p_build (vs := [(0, _), (1, _)]) (cs := #[_, _]) Y (run_build_struct (pl := #[(0, 1), (1, 1)]) zeroValue142 underlying142 (fun _ => by kernel_rfl) rfl)) ?_
     refine Ze (w_buildSlice (vs := [_]) (cs := [_, _]) underlying134 sizeOf142 zeroValue142 Y rfl rfl rfl rfl rfl) ?_
     rintro _ _ ⟨g5, rfl, rfl⟩
     refine Ze (w_appendS (by_ := 24) (sz := 2) (news := [_, _]) underlying134 (rfl : Tryz.prog.info? 142 = some Tryz.t142) rfl rfl rfl rfl Y hp Y (by repeat (first | exact One.here _ _ | apply One.there)) (by repeat (first | exact Has.here _ | apply Has.there)) (by rfl) rfl (by simp [Value.oneCell', Value.cells]) (by decide) (by omega) (by omega)) ?_
     rintro _ _ ⟨sq, hrq, rfl⟩
     obtain ⟨gq, cq, rfl⟩ := hrq.form
     refine Zp Y rfl <| Zh 1 underlying136 rfl rfl sizeOf134 Y <| Ze (Zs sizeOf134 Y Y rfl) ?_
     rintro _ _ ⟨rfl, rfl⟩
     refine Z0 <| Zn [0] ?_
     refine Zx <| Zq <| Zq <| Zg <| Zm Y <| Zp Y rfl <| Zh 3 underlying136 rfl rfl sizeOf3 Y <| Zl isAgg3 Y ?_
     first | refine op_v (p_gtr_nat (n := 0) Y Y) ?_ | refine op_v (p_gtr Y Y) ?_
     refine Z0 <| Zx ?_
     first | refine at_if Y (fun hc5 => ?_) (fun hc5 => ?_) | refine at_if_bool Y (fun hc5 => ?_) (fun hc5 => ?_)
     ·
      refine Zq <| Zg <| Zm Y <| Zp Y rfl <| Zh 3 underlying136 rfl rfl sizeOf3 Y <| Zl isAgg3 Y ?_
      first | (refine op_v (p_sub_nat (n := 1) Y Y ?_ ?_) ?_; (focus (omega)); (focus (omega))) | (refine op_v (p_sub Y Y (IntWalk.i64_in _ ?_)) ?_; (focus (omega)))
      refine Zp Y rfl <| Zh 3 underlying136 rfl rfl sizeOf3 Y <| Ze (Zs sizeOf3 Y Y rfl) ?_
      rintro _ _ ⟨rfl, rfl⟩
      refine Z0 <| Zn [0] ?_
      refine Zx <| Zq <| Zg <| Zm Y <| Zp Y rfl <| Zh 3 underlying136 rfl rfl sizeOf3 Y <| Zl isAgg3 Y ?_
      first | refine op_v (p_eql_nat (n := 0) Y Y) ?_ | refine op_v (p_eql Y Y) ?_
      refine Z0 <| Zx ?_
      first | refine at_if Y (fun hc6 => ?_) (fun hc6 => ?_) | refine at_if_bool Y (fun hc6 => ?_) (fun hc6 => ?_)
      ·
       exfalso; omega
      ·
       rw [show (Value.bool false) = .bool (usedOff false (m + 2)) from by unfold usedOff; simp]
       refine at_skip <| Zx <| Zq <| Zg <| Za Y <| Z0 <| Zx <| at_ret ?_
       refine nx_end1 rfl results22 Y (by exact ⟨_, sq, rfl, hrq, rfl⟩)
     ·
      exfalso; omega

theorem rwrite_off (rp : Nat) (v pv lv : Value) (o : Int) (s : ByteArray) : DoesR Tryz.prog 22 #[.pointer (some ⟨rp, 0, none⟩), .int .i64 o, .string s] [[(rp, .cells #[v, pv, .bool true, lv] 136 (0, 0))]] (.int .i64 221) := by
 refine spec_enter func22 rfl ntmps22 rfl ?_
 intro u R
 refine Zb [0, 1, 2] ?_
 refine Zq <| Zg <| Za Y <| Z0 <| Zx <| Zq <| Zq <| Zg <| Zm Y <| Zp Y rfl <| Zh 2 underlying136 rfl rfl sizeOf4 Y <| Zl isAgg4 Y ?_
 refine Z0 <| Zx ?_
 refine at_if_bool Y (fun hc1 => ?_) (fun hc1 => ?_)
 ·
  refine Zq <| Zg <| Za Y <| Z0 <| Zx <| at_ret <| Zt ?_
  refine nx_end1 rfl results22 Y (by exact ⟨rfl, rfl⟩)
 ·
  cases hc1

theorem rsync_on {v pv : Value} {du : List UInt8} {l : List (Nat × List UInt8)} {sv sp : List Chunk} (rp left : Nat) (hr : Row 5 v (du.map u8v) sv) (hp : RowS 2 142 pv l.length (pendC l) sp) (hin : ∀ p ∈ l, p.1 + p.2.length ≤ du.length) (hd : du.length ≤ 4194304) (h0 : 1 ≤ du.length) (hl : l.length ≤ 1000000) : Does Tryz.prog 116 #[.pointer (some ⟨rp, 0, none⟩)] [[(rp, .cells #[v, pv, .bool false, .int .i64 (left : Int)] 136 (0, 0))], sv, sp] (fun r H' => ∃ v' s2, r = .int .i64 0 ∧ Row 5 v' ((vis du l).map u8v) s2 ∧ H' = [[(rp, .cells #[v', .slice none 0 0, .bool false, .int .i64 (left : Int)] 136 (0, 0))], s2]) := by
 refine spec_enter func116 rfl ntmps116 rfl ?_
 intro u R
 refine Zb [0] ?_
 refine Zq <| Zg <| Za Y <| Z0 <| Zx <| Zq <| Zq <| Zg <| Zm Y <| Zp Y rfl <| Zh 2 underlying136 rfl rfl sizeOf4 Y <| Zl isAgg4 Y ?_
 refine Z0 <| Zx ?_
 refine at_if_bool Y (fun hc1 => ?_) (fun hc1 => ?_)
 ·
  cases hc1
 ·
  refine at_skip <| Zx <| Zq <| Zg <| Zm Y <| Zm Y <| Zc [_] Y call64 Y rfl (rvis_spec false rp left hr hp hin hd h0 hl) ?_
  rintro _ _ ⟨_, ⟨s2, hr2, rfl⟩, rfl⟩
  obtain ⟨b2, c2, hv2⟩ := hr2.form
  subst hv2
  refine Zp Y rfl <| Zh 0 underlying136 rfl rfl sizeOf36 Y <| Ze (Zs sizeOf36 Y Y rfl) ?_
  rintro _ _ ⟨rfl, rfl⟩
  refine Z0 <| Zx <| Zq <| Zg <| Zm Y <| Zp Y rfl <| Zh 1 underlying136 rfl rfl sizeOf134 Y <| Ze (Zs sizeOf134 Y Y rfl) ?_
  rintro _ _ ⟨rfl, rfl⟩
  refine Z0 <| Zn [] ?_
  refine Zx <| Zq <| Zg <| Za Y <| Z0 <| Zx <| at_ret ?_
  refine nx_end1 rfl results116 Y (by exact ⟨_, s2, rfl, hr2, rfl⟩)

theorem rsync_off (rp : Nat) (v pv lv : Value) : DoesR Tryz.prog 116 #[.pointer (some ⟨rp, 0, none⟩)] [[(rp, .cells #[v, pv, .bool true, lv] 136 (0, 0))]] (.int .i64 221) := by
 refine spec_enter func116 rfl ntmps116 rfl ?_
 intro u R
 refine Zb [0] ?_
 refine Zq <| Zg <| Za Y <| Z0 <| Zx <| Zq <| Zq <| Zg <| Zm Y <| Zp Y rfl <| Zh 2 underlying136 rfl rfl sizeOf4 Y <| Zl isAgg4 Y ?_
 refine Z0 <| Zx ?_
 refine at_if_bool Y (fun hc1 => ?_) (fun hc1 => ?_)
 ·
  refine Zq <| Zg <| Za Y <| Z0 <| Zx <| at_ret <| Zt ?_
  refine nx_end1 rfl results116 Y (by exact ⟨rfl, rfl⟩)
 ·
  cases hc1

theorem rread_on {v pv : Value} {du : List UInt8} {l : List (Nat × List UInt8)} {sv sp : List Chunk} (rp left : Nat) (hr : Row 5 v (du.map u8v) sv) (hp : RowS 2 142 pv l.length (pendC l) sp) (hin : ∀ p ∈ l, p.1 + p.2.length ≤ du.length) (hd : du.length ≤ 4194304) (h0 : 1 ≤ du.length) (hl : l.length ≤ 1000000) (o m : Nat) (h : o + m ≤ du.length) (ho : o < du.length) : DoesR Tryz.prog 121 #[.pointer (some ⟨rp, 0, none⟩), .int .i64 (o : Int), .int .i64 (m : Int)] [[(rp, .cells #[v, pv, .bool false, .int .i64 (left : Int)] 136 (0, 0))], sv, sp] (.tuple #[.string (str (((vis du l).drop o).take m)), .int .i64 0]) := by
 have hml : maxLen = 9223372036854775807 := rfl
 obtain ⟨b0, c0, hv0⟩ := hr.form
 rw [List.length_map] at hv0
 subst hv0
 obtain ⟨b1, c1, rfl⟩ := hp.form
 have hvl := vis_len du l hin
 refine spec_enter func121 rfl ntmps121 rfl ?_
 intro u R
 refine Zb [0, 1, 2] ?_
 refine Zq <| Zg <| Za Y <| Za Y <| Z0 <| Zx <| Zq <| Zq <| Zg <| Zm Y <| Zp Y rfl <| Zh 2 underlying136 rfl rfl sizeOf4 Y <| Zl isAgg4 Y ?_
 refine Z0 <| Zx ?_
 refine at_if_bool Y (fun hc1 => ?_) (fun hc1 => ?_)
 ·
  cases hc1
 ·
  refine at_skip <| Zx <| Zq <| Zq <| Zg <| Zm Y ?_
  first | refine op_v (p_lss_nat (n := 0) Y Y) ?_ | refine op_v (p_lss Y Y) ?_
  refine Zm Y ?_
  first | refine ops_split (t := 14) Y rfl (fun hc2 => ?_) (fun hc2 => ?_) | refine ops_split_bool (t := 14) Y rfl (fun hc2 => ?_) (fun hc2 => ?_)
  ·
   exfalso; omega
  ·
   refine Zf Y Y ?_
   first | refine op_wg Y (p_lss_nat (n := 0) Y Y) rfl rfl ?_ | refine op_wg Y (p_lss Y Y) rfl rfl ?_
   refine Zv (p_pick_f Y Y) <| Zm Y ?_
   first | refine ops_split (t := 18) Y rfl (fun hc3 => ?_) (fun hc3 => ?_) | refine ops_split_bool (t := 18) Y rfl (fun hc3 => ?_) (fun hc3 => ?_)
   ·
    exfalso; omega
   ·
    refine Zf Y Y <| Zf Y Y <| op_wg Y (p_nilChk Y rfl) rfl rfl ?_
    refine op_wg Y (p_fieldAddr0 (off := 0) underlying136 rfl rfl sizeOf36 Y) rfl rfl ?_
    refine op_rg Y (by repeat (first | exact Has.here _ | apply Has.there)) (p_load isAgg36 Y (by rfl)) rfl rfl ?_
    refine op_wg Y (p_len_slice underlying36 Y) rfl rfl ?_
    first | refine op_wg Y (p_gtr_nat Y Y) rfl rfl ?_ | refine op_wg Y (p_gtr Y Y) rfl rfl ?_
    refine Zv (p_pick_f Y Y) <| Zm Y ?_
    first | refine ops_split (t := 27) Y rfl (fun hc4 => ?_) (fun hc4 => ?_) | refine ops_split_bool (t := 27) Y rfl (fun hc4 => ?_) (fun hc4 => ?_)
    ·
     exfalso; omega
    ·
     refine Zf Y Y <| Zf Y Y <| op_wg Y (p_nilChk Y rfl) rfl rfl ?_
     refine op_wg Y (p_fieldAddr0 (off := 0) underlying136 rfl rfl sizeOf36 Y) rfl rfl ?_
     refine op_rg Y (by repeat (first | exact Has.here _ | apply Has.there)) (p_load isAgg36 Y (by rfl)) rfl rfl ?_
     refine op_wg Y (p_len_slice underlying36 Y) rfl rfl ?_
     refine Zf Y Y ?_
     first | (refine op_wg Y (p_sub_nat Y Y ?_ ?_) rfl rfl ?_; (focus (omega)); (focus (omega))) | (refine op_wg Y (p_sub Y Y (IntWalk.i64_in _ ?_)) rfl rfl ?_; (focus (omega)))
     first | refine op_wg Y (p_gtr_nat Y Y) rfl rfl ?_ | refine op_wg Y (p_gtr Y Y) rfl rfl ?_
     refine Zv (p_pick_f Y Y) <| Z0 <| Zn [0, 1, 2, 37] ?_
     refine Zx ?_
     first | refine at_if Y (fun hc5 => ?_) (fun hc5 => ?_) | refine at_if_bool Y (fun hc5 => ?_) (fun hc5 => ?_)
     ·
      exfalso; omega
     ·
      refine at_skip <| Zx <| Zq <| Zg <| Zm Y <| Zc [_] Y call64 Y rfl (rvis_spec false rp left hr hp hin hd h0 hl) ?_
      rintro _ _ ⟨_, ⟨s2, hr2, rfl⟩, rfl⟩
      obtain ⟨g2, cap2, cur2, z2, hv2, rfl, hle2, hcm2, hcs2, htk2, hfr2⟩ := hr2.some (by rw [List.length_map]; omega)
      subst hv2
      rw [List.length_map] at hle2 htk2 ⊢
      refine Zm Y <| Zm Y <| Zm Y ?_
      first | (refine op_v (p_add_nat Y Y ?_) ?_; (focus (omega))) | (refine op_v (p_add Y Y (IntWalk.i64_in _ ?_)) ?_; (focus (omega)))
      (refine op_v (p_slice_slice underlying36 sizeOf5 Y Y Y ?_ ?_) ?_; (focus (omega)); (focus (omega)))
      refine Zo (by repeat (first | exact Has.here _ | apply Has.there)) (p_conv_bytes_str (bs := ((vis du l).drop o).take m) underlying36 underlying5 underlying9 (fun _ => cut_from g2 o cap2 _ m (by omega) (by omega)) (by exact ⟨by rw [List.map_take, List.map_drop, ← htk2, List.drop_take, List.take_take]; congr 1; omega, by rw [List.length_take, List.length_drop]; omega⟩)) ?_
      refine Za Y <| Za Y <| Z0 <| Zx <| at_ret ?_
      refine nx_end2 rfl results121 Y Y (by exact ⟨rfl, rfl⟩)

theorem rread_off (rp : Nat) (v pv lv : Value) (o m : Int) : DoesR Tryz.prog 121 #[.pointer (some ⟨rp, 0, none⟩), .int .i64 o, .int .i64 m] [[(rp, .cells #[v, pv, .bool true, lv] 136 (0, 0))]] (.tuple #[.string (str []), .int .i64 221]) := by
 refine spec_enter func121 rfl ntmps121 rfl ?_
 intro u R
 refine Zb [0, 1, 2] ?_
 refine Zq <| Zg <| Za Y <| Za Y <| Z0 <| Zx <| Zq <| Zq <| Zg <| Zm Y <| Zp Y rfl <| Zh 2 underlying136 rfl rfl sizeOf4 Y <| Zl isAgg4 Y ?_
 refine Z0 <| Zx ?_
 refine at_if_bool Y (fun hc1 => ?_) (fun hc1 => ?_)
 ·
  refine Zq <| Zg <| Za Y <| Za Y <| Z0 <| Zx <| at_ret <| Zt ?_
  refine nx_end2 rfl results121 Y Y (by exact ⟨rfl, rfl⟩)
 ·
  cases hc1

theorem rnew_spec (n : Nat) (h1 : 1 ≤ n) (h2 : n ≤ 4194304) : Does Tryz.prog 19 #[.int .i64 (n : Int)] [] (fun r H' => ∃ rp bs, r = .tuple #[.pointer (some ⟨rp, 0, none⟩), .int .i64 0] ∧ H' = [[(rp, .cells #[.slice (some ⟨bs, 0, none⟩) n n, .slice none 0 0, .bool false, .int .i64 0] 136 (0, 0))], [(bs, .cells (List.replicate n (.int .u8 0)).toArray 5 (0, 0))]]) := by
 refine spec_enter func19 rfl ntmps19 rfl ?_
 intro u R
 refine Zb [0] ?_
 refine Zq <| Zg <| Za Y <| Za Y <| Z0 <| Zx <| Zq <| Zq <| Zg <| Zm Y ?_
 first | refine op_v (p_lss_nat (n := 1) Y Y) ?_ | refine op_v (p_lss Y Y) ?_
 refine Zm Y ?_
 first | refine ops_split (t := 6) Y rfl (fun hc1 => ?_) (fun hc1 => ?_) | refine ops_split_bool (t := 6) Y rfl (fun hc1 => ?_) (fun hc1 => ?_)
 ·
  exfalso; omega
 ·
  refine Zf Y Y ?_
  first | refine op_wg Y (p_gtr_nat (n := 4194304) Y Y) rfl rfl ?_ | refine op_wg Y (p_gtr Y Y) rfl rfl ?_
  refine Zv (p_pick_f Y Y) <| Z0 <| Zx ?_
  first | refine at_if Y (fun hc2 => ?_) (fun hc2 => ?_) | refine at_if_bool Y (fun hc2 => ?_) (fun hc2 => ?_)
  ·
   exfalso; omega
  ·
   refine at_skip <| Zx <| Zq <| Zg <| Zm Y ?_
   refine Ze (w_makeSlice (by_ := 1) underlying36 (rfl : Tryz.prog.info? 5 = some Tryz.t5) rfl rfl rfl rfl Y Y ?_ ?_ ?_) ?_
   (focus (omega))
   (focus (omega))
   (focus (omega))
   rintro _ _ ⟨bs, rfl, rfl⟩
   refine Zv (p_build (vs := [(0, _)]) (cs := #[_, _, _, _]) Y (run_build_struct (pl := #[(0, 1), (1, 1), (2, 1), (3, 1)]) zeroValue136 underlying136 (fun _ => by kernel_rfl) rfl)) ?_
   refine Ze (w_box Y (cs := #[_, _, _, _]) rfl) ?_
   rintro _ _ ⟨rp, rfl, rfl⟩
   refine Za Y <| Za Y <| Z0 <| Zn [2, 3] ?_
   refine Zx <| at_ret ?_
   refine nx_end2 rfl results19 Y Y (by exact ⟨rp, bs, rfl, rfl⟩)

def DiskS.coh (d : DiskS) : Prop := d.vi = vis d.du d.pend ∧ ∀ p ∈ d.pend, p.1 + p.2.length ≤ d.du.length
/-- The memory s is a disk of the reference in the state d. -/
def RdR (d : DiskS) (rp : Nat) (s : List Chunk) : Prop := d.ok ∧ d.coh ∧ ∃ v pv sv sp, Row 5 v (d.du.map u8v) sv ∧ RowS 2 142 pv d.pend.length (pendC d.pend) sp ∧
  s = (rp, .cells #[v, pv, .bool d.off, .int .i64 (d.left : Int)] 136 (0, 0)) :: (sv ++ sp)
theorem coh_write {d : DiskS} (h : d.coh) (hl : d.du.length = d.vi.length) (o : Nat) (b : List UInt8) (hb : o + b.length ≤ d.vi.length) : (d.write o b).2.coh := by
  obtain ⟨off, left, du, vi, pend⟩ := d
  obtain ⟨h1, h2⟩ := h
  simp only at h1 h2 hl hb
  unfold DiskS.write
  cases off
  · refine ⟨by show splice vi o b = vis du (pend ++ [(o, b)]); rw [vis_snoc, ← h1], fun p hp => ?_⟩
    rcases List.mem_append.1 hp with hp | hp
    · exact h2 p hp
    · rw [List.mem_singleton.1 hp]; show o + b.length ≤ du.length; omega
  · exact ⟨h1, h2⟩
theorem coh_sync {d : DiskS} (h : d.coh) : d.sync.2.coh := by
  unfold DiskS.sync
  split
  · exact h
  · exact ⟨rfl, by simp⟩
theorem coh_new (n : Nat) : (DiskS.new n).coh := ⟨rfl, by simp [DiskS.new]⟩
theorem ok_write {d : DiskS} (h : d.ok) (o : Nat) (b : List UInt8) (hb : o + b.length ≤ d.vi.length) : (d.write o b).2.ok := by
  obtain ⟨off, left, du, vi, pend⟩ := d
  obtain ⟨h1, h2, h3, h4⟩ := h
  simp only at h1 h2 h3 h4 hb
  have := splice_len vi o b hb
  unfold DiskS.write
  cases off
  · exact ⟨by simp only [Bool.false_eq_true, if_false]; omega, by simp only [Bool.false_eq_true, if_false]; omega, by simp only [Bool.false_eq_true, if_false]; omega, by simp only [Bool.false_eq_true, if_false, usedLeft]; omega⟩
  · exact ⟨h1, h2, h3, h4⟩
theorem ok_sync {d : DiskS} (h : d.ok) : d.sync.2.ok := by
  unfold DiskS.sync
  split
  · exact h
  · exact ⟨rfl, h.2.1, h.2.2.1, h.2.2.2⟩
theorem rd_write (d : DiskS) (rp : Nat) (s : List Chunk) (hR : RdR d rp s) (o : Nat) (b : List UInt8) (h : o + b.length ≤ d.vi.length) (hk : d.pend.length ≤ 1000000) :
    Does Tryz.prog 22 #[.pointer (some ⟨rp, 0, none⟩), .int .i64 (o : Int), .string (str b)] [s] (fun r H' => ∃ s', H' = [s'] ∧ r = .int .i64 (d.write o b).1 ∧ RdR (d.write o b).2 rp s') := by
  obtain ⟨hok, hco, v, pv, sv, sp, hr, hp, rfl⟩ := hR
  have hok' := ok_write hok o b h
  have hco' := coh_write hco hok.1 o b h
  obtain ⟨off, left, du, vi, pend⟩ := d
  obtain ⟨hl, h1, h4, hlf⟩ := hok
  have hin := hco.2
  simp only at *
  cases off with
  | true =>
    refine does_mono (does_frame (rwrite_off rp v pv (.int .i64 (left : Int)) o (str b)) [sv ++ sp] (by simp)) ?_
    rintro r _ ⟨H2, ⟨rfl, rfl⟩, rfl⟩
    exact ⟨[_], ⟨_, rfl, rfl, hok', hco', v, pv, sv, sp, hr, hp, rfl⟩, by simp [DiskS.write]⟩
  | false =>
    have fin : ∀ (lf : Nat), lf = left → Does Tryz.prog 22 #[.pointer (some ⟨rp, 0, none⟩), .int .i64 (o : Int), .string (str b)] [[(rp, .cells #[v, pv, .bool false, .int .i64 (lf : Int)] 136 (0, 0))], sv, sp] (fun r H' => ∃ pv' sp', r = .int .i64 0 ∧ RowS 2 142 pv' (pend.length + 1) (pendC pend ++ [.int .i64 (o : Int), .string (str b)]) sp' ∧ H' = [[(rp, .cells #[v, pv', .bool (usedOff false lf), .int .i64 ((usedLeft lf : Nat) : Int)] 136 (0, 0))], sv, sp']) := by
      intro lf e
      rcases (show lf = 0 ∨ lf = 1 ∨ ∃ m, lf = m + 2 ∧ m ≤ 4194304 from by
        rcases Nat.lt_or_ge lf 2 with h9 | h9
        · omega
        · exact .inr (.inr ⟨lf - 2, by omega, by omega⟩)) with rfl | rfl | ⟨m, rfl, hm⟩
      · exact rwrite0 rp hr hp hin (by omega) (by omega) hk o b (by omega)
      · exact rwrite1 rp hr hp hin (by omega) (by omega) hk o b (by omega)
      · exact rwrite2 m hm rp hr hp hin (by omega) (by omega) hk o b (by omega)
    refine does_mono (does_flat (by simp) (fin left rfl)) ?_
    rintro r _ ⟨pv', sp', rfl, hp', rfl⟩
    refine ⟨[_], ⟨_, rfl, rfl, hok', hco', v, pv', sv, sp', hr, ?_, rfl⟩, by simp [DiskS.write]⟩
    simp only [DiskS.write, Bool.false_eq_true, if_false, List.length_append, List.length_cons, List.length_nil]
    have : pendC (pend ++ [(o, b)]) = pendC pend ++ [.int .i64 (o : Int), .string (str b)] := by simp [pendC]
    rw [this]; exact hp'
theorem rd_sync (d : DiskS) (rp : Nat) (s : List Chunk) (hR : RdR d rp s) (hk : d.pend.length ≤ 1000000) :
    Does Tryz.prog 116 #[.pointer (some ⟨rp, 0, none⟩)] [s] (fun r H' => ∃ s', H' = [s'] ∧ r = .int .i64 d.sync.1 ∧ RdR d.sync.2 rp s') := by
  obtain ⟨hok, hco, v, pv, sv, sp, hr, hp, rfl⟩ := hR
  have hok' := ok_sync hok
  have hco' := coh_sync hco
  obtain ⟨off, left, du, vi, pend⟩ := d
  obtain ⟨hl, h1, h4, hlf⟩ := hok
  obtain ⟨hvi, hin⟩ := hco
  simp only at *
  cases off with
  | true =>
    refine does_mono (does_frame (rsync_off rp v pv (.int .i64 (left : Int))) [sv ++ sp] (by simp)) ?_
    rintro r _ ⟨H2, ⟨rfl, rfl⟩, rfl⟩
    exact ⟨[_], ⟨_, rfl, rfl, hok', hco', v, pv, sv, sp, hr, hp, rfl⟩, by simp [DiskS.sync]⟩
  | false =>
    refine does_mono (does_flat (by simp) (rsync_on rp left hr hp hin (by omega) (by omega) hk)) ?_
    rintro r _ ⟨v', s2, rfl, hr2, rfl⟩
    refine ⟨[_], ⟨_, rfl, rfl, hok', hco', v', .slice none 0 0, s2, [], ?_, rowS_nil 2 _, rfl⟩, by simp [DiskS.sync]⟩
    show Row _ v' (vi.map u8v) s2
    rw [hvi]; exact hr2
theorem rd_read (d : DiskS) (rp : Nat) (s : List Chunk) (hR : RdR d rp s) (o m : Nat) (h : o + m ≤ d.vi.length) (ho : o < d.vi.length) (hk : d.pend.length ≤ 1000000) :
    DoesR Tryz.prog 121 #[.pointer (some ⟨rp, 0, none⟩), .int .i64 (o : Int), .int .i64 (m : Int)] [s] (if d.off then .tuple #[.string (str []), .int .i64 221] else .tuple #[.string (str ((d.vi.drop o).take m)), .int .i64 0]) := by
  obtain ⟨⟨hl, h1, h4, hlf⟩, ⟨hvi, hin⟩, v, pv, sv, sp, hr, hp, rfl⟩ := hR
  obtain ⟨off, left, du, vi, pend⟩ := d
  simp only at *
  cases off with
  | true =>
    refine does_mono (does_frame (rread_off rp v pv (.int .i64 (left : Int)) o m) [sv ++ sp] (by simp)) ?_
    rintro r _ ⟨H2, ⟨rfl, rfl⟩, rfl⟩
    exact ⟨_, ⟨rfl, rfl⟩, by simp⟩
  | false =>
    refine does_mono (does_flat (by simp) (rread_on rp left hr hp hin (by omega) (by omega) hk o m (by omega) (by omega))) ?_
    rintro r _ ⟨rfl, rfl⟩
    rw [← hvi]
    exact ⟨_, ⟨rfl, rfl⟩, by simp⟩
theorem rd_vis (d : DiskS) (rp : Nat) (s : List Chunk) (hR : RdR d rp s) (hk : d.pend.length ≤ 1000000) :
    Does Tryz.prog 64 #[.pointer (some ⟨rp, 0, none⟩)] [s] (fun r H' => ∃ s2, Row 5 r (d.vi.map u8v) s2 ∧ H' = [s, s2]) := by
  obtain ⟨⟨hl, h1, h4, hlf⟩, ⟨hvi, hin⟩, v, pv, sv, sp, hr, hp, rfl⟩ := hR
  refine does_mono (does_flat (by simp) (rvis_spec d.off rp d.left hr hp hin (by omega) (by omega) hk)) ?_
  rintro r _ ⟨s2, hr2, rfl⟩
  rw [← hvi] at hr2
  exact ⟨_, ⟨s2, hr2, rfl⟩, by simp⟩
theorem rd_new (n : Nat) (h1 : 1 ≤ n) (h2 : n ≤ 4194304) : Does Tryz.prog 19 #[.int .i64 (n : Int)] [] (fun r H' => ∃ rp s, r = .tuple #[.pointer (some ⟨rp, 0, none⟩), .int .i64 0] ∧ RdR (DiskS.new n) rp s ∧ H' = [s]) := by
  refine does_mono (rnew_spec n h1 h2) ?_
  rintro r _ ⟨rp, bs, rfl, rfl⟩
  have e : List.replicate n (Value.int .u8 0) = (List.replicate n (0 : UInt8)).map u8v := by simp [u8v]
  rw [e]
  refine ⟨_, ⟨rp, _, rfl, ⟨⟨rfl, by simp [DiskS.new]; omega, by simp [DiskS.new]; omega, Nat.zero_le _⟩, coh_new n, .slice (some ⟨bs, 0, none⟩) n n, .slice none 0 0, [(bs, .cells ((List.replicate n (0 : UInt8)).map u8v).toArray 5 (0, 0))], [], ?_, rowS_nil 2 _, rfl⟩, rfl⟩, rfl⟩
  show Row _ _ ((List.replicate n (0 : UInt8)).map u8v) _
  have := row_new 5 bs ((List.replicate n (0 : UInt8)).map u8v) n (by simp) (by have : maxLen = 9223372036854775807 := rfl; omega)
  exact this

end Go.Proofs.YthbadolcncojbaaGreatDoor
