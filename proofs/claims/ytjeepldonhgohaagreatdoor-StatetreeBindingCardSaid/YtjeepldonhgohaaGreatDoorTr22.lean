/- The reference of layer 10: Hashed, All, Collided. -/
import Derived.Test.YtjeepldonhgohaaGreatDoorEz
import Derived.Test.YtjeepldonhgohaaGreatDoorTr26
import Derived.Test.YtjeepldonhgohaaGreatDoorRt1

namespace Go.Proofs.YtjeepldonhgohaaGreatDoor
open Go.Proofs.Tryz
open Go Go.RowKit Gw
set_option linter.unusedVariables false
set_option linter.unusedSimpArgs false
set_option maxRecDepth 100000
attribute [local irreducible] Gw.At Gw.Nx Gw.Ops
theorem coll_snoc {a : List Bs} {y x : Bs} {i : Nat} (hx : a[i]? = some x) (h : ∀ z ∈ a.take i, ¬ (z ≠ y ∧ sha z = sha y)) (h2 : ¬ (x ≠ y ∧ sha x = sha y)) : ∀ z ∈ a.take (i + 1), ¬ (z ≠ y ∧ sha z = sha y) := by
  rw [take_snoc hx]
  intro z hz
  rcases List.mem_append.1 hz with h9 | h9
  · exact h z h9
  · rw [List.mem_singleton.1 h9]; exact h2
noncomputable instance (a b : List Bs) : Decidable (Coll a b) := Classical.propDecidable _
def shaV (x : Bs) : Value := strV (sha x)
theorem strV_one (l : List Bs) : ∀ u ∈ l.map strV, u.oneCell' = true := by
  intro u hu
  obtain ⟨x, _, rfl⟩ := List.mem_map.1 hu
  rfl

theorem r10_hashed_step (n : Nat) (IH : ∀ {M : List Chunk} {v : Value} {ls : List Bs}, ls.length < n → StrsU M v ls → ls.length ≤ 1000000 → (∀ s ∈ ls, s.length ≤ 1099511627000) → Does Tryz.prog 70 #[v] [M] (fun r H' => ∃ so, RowS 1 9 r (hashedT ls).length ((hashedT ls).map strV) so ∧ H' = [so, M])) {M : List Chunk} {v : Value} {ls : List Bs} (hl9 : ls.length = n) (hv : StrsU M v ls) (hn : ls.length ≤ 1000000) (hs : ∀ s ∈ ls, s.length ≤ 1099511627000) : Does Tryz.prog 70 #[v] [M] (fun r H' => ∃ so, RowS 1 9 r (hashedT ls).length ((hashedT ls).map strV) so ∧ H' = [so, M]) := by
 have hml : maxLen = 9223372036854775807 := rfl
 obtain ⟨p, cap, rfl, hl, hg⟩ := id hv
 refine spec_enter func70 rfl ntmps70 rfl ?_
 intro u R
 refine Zb [0] ?_
 refine Zq <| Zg <| Za Y <| Z0 <| Zx <| Zq <| Zq <| Zg <| Zm Y <| Zv (p_len_slice underlying35 Y) <| Zv (p_eql_nat (n := 0) Y Y) <| Z0 <| Zx ?_
 refine at_if Y (fun h0 => ?_) (fun h0 => ?_)
 ·
  have e1 : ls = [] := List.eq_nil_of_length_eq_zero h0
  refine Zq <| Zg <| Ze (w_buildSlice (vs := [_]) (cs := [_]) underlying35 sizeOf9 zeroValue9 Y rfl rfl rfl rfl rfl) ?_
  rintro _ _ ⟨g1, rfl, rfl⟩
  refine Za Y <| Z0 <| Zx <| at_ret <| Zt ?_
  refine nx_end1 rfl results70 Y (by exact ⟨_, by rw [e1, hashed_nil]; exact rowS_new 1 9 g1 1 [strV []] rfl (by decide), rfl⟩)
 ·
  refine at_skip <| Zx <| Zq <| Zq <| Zg <| Zm Y <| Zv (p_len_slice underlying35 Y) <| Zv (p_eql_nat (n := 1) Y Y) <| Z0 <| Zx ?_
  refine at_if Y (fun h1 => ?_) (fun h1 => ?_)
  ·
   obtain ⟨x, rfl⟩ : ∃ x, ls = [x] := by
     match ls, h1 with
     | [x], _ => exact ⟨x, rfl⟩
   obtain ⟨g, off, cur, T, zz, rfl, hm9, hex9⟩ := hg 0 x rfl
   have hsx := hs x (by simp)
   refine Zq <| Zg <| Zm Y ?_
   (refine op_v (p_indexAddr_nat1 (j := 0) underlying35 sizeOf9 Y Y ?_) ?_; (focus (first | omega | decide | (simp; done))))
   refine op_rm (cs := [(g, .cells cur T zz)]) (by simp [hm9]) (p_load isAgg9 Y (by exact hex9)) rfl rfl ?_
   (refine op_v (p_add_str Y Y ?_) ?_; (focus (first | (show 1 + _ ≤ _; rw [str_size]; omega))))
   refine Ze (w_buildSlice (vs := [_]) (cs := [_]) underlying35 sizeOf9 zeroValue9 Y rfl rfl rfl rfl rfl) ?_
   rintro _ _ ⟨g1, rfl, rfl⟩
   refine Za Y <| Z0 <| Zn [2] ?_
   refine Zx <| at_ret <| Zt ?_
   refine nx_end1 rfl results70 Y (by exact ⟨_, by rw [hashed_one]; exact rowS_eq (rowS_new 1 9 g1 1 [.string (str [0] ++ str x)] rfl (by decide)) rfl (by rw [str_app]; rfl), rfl⟩)
  ·
   have h9 : 2 ≤ ls.length := by omega
   have hk1 := left_lt h9
   have hk2 := left_pos ls.length
   have hlt2 : (ls.take (leftN ls.length)).length = leftN ls.length := by rw [List.length_take]; omega
   have hld2 : (ls.drop (leftN ls.length)).length = ls.length - leftN ls.length := List.length_drop ..
   obtain ⟨g8, off8, cur8, T8, zz8, rfl, hm8, hc8⟩ := hg 0 _ (List.getElem?_eq_getElem (by omega))
   have hvt := hv.take (leftN ls.length) (by omega)
   have hvd := hv.drop (leftN ls.length) hk1
   have hz1 := hashed_len _ (ls.take (leftN ls.length)) (Nat.le_refl _)
   have hz2 := hashed_len _ (ls.drop (leftN ls.length)) (Nat.le_refl _)
   refine at_skip <| Zx <| Zq <| Zg <| Zm Y <| Zv (p_len_slice underlying35 Y) <| Zr [_] Y call82 Y rfl (r2_left ls.length h9 (by omega)) ?_
   rintro _ _ ⟨rfl, rfl⟩
   refine Za Y <| Z0 <| Zx <| Zq <| at_draw (n := 10) (0 :: 0 :: 3 :: 7 :: 0 :: 0 :: 48 :: 127 :: 255 :: 511 :: []) 392 (by kernel_rfl) (by kernel_rfl) rfl ?_
   refine Zi 1 0 rfl (p_move Y) <| Zi 3 1 rfl (p_move Y) ?_
   (refine lin_v (D' := 7) 2 (p_slice_slice_to underlying35 sizeOf9 Y Y ?_) ?_; (focus (omega)))
   refine Zi 23 4 rfl (p_move Y) <| Zi 55 5 rfl (p_move Y) ?_
   (refine lin_v (D' := 119) 6 (p_slice_slice_from1 underlying35 sizeOf9 Y Y ?_ ?_) ?_; (focus (omega)); (focus (omega)))
   refine Zz (l := [3]) ?_
   refine Zy 7 127 [] [] [] rfl Y rfl rfl rfl rfl (Zw [_] Y call70 Y rfl (IH (ls := ls.take (leftN ls.length)) (by rw [hlt2]; omega) (by exact hvt) (by rw [hlt2]; omega) (fun s h => hs s (List.mem_of_mem_take h)))) ?hk_3 no_pan ?hl_3
   case hk_3 =>
    rintro _ _ ⟨_, ⟨s1, hw1, rfl⟩, rfl⟩
    refine ⟨keep_nil, ?_⟩
    obtain ⟨q1, c1, rfl⟩ := hw1.form
    refine Zz (l := [7]) ?_
    refine Zy 127 255 [] [] [] rfl Y rfl rfl rfl rfl (Zw [_] Y call70 Y rfl (IH (ls := ls.drop (leftN ls.length)) (by rw [List.length_drop]; omega) (by exact hvd) (by rw [List.length_drop]; omega) (fun s h => hs s (List.mem_of_mem_drop h)))) ?hk_4 no_pan ?hl_4
    case hk_4 =>
     rintro _ _ ⟨_, ⟨s2, hw2, rfl⟩, rfl⟩
     refine ⟨keep_nil, ?_⟩
     obtain ⟨q2, c2, rfl⟩ := hw2.form
     refine Zz (l := [8]) ?_
     refine Zy 255 511 [] [] [] rfl Y rfl rfl rfl rfl (w_append_subS (by_ := 16) (sz := 1) underlying35 (rfl : Tryz.prog.info? 9 = some Tryz.t9) rfl rfl rfl rfl Y (hw1) Y (subS_of hw2) (by repeat (first | exact One.here _ _ | apply One.there)) (by repeat (first | exact One.here _ _ | apply One.there)) (by exact strV_one _) (by omega) (by omega)) ?hk_5 (fun _ _ h => h.elim) ?hl_5
     case hk_5 =>
      rintro _ _ ⟨sw5, hrw5, rfl⟩
      refine ⟨keep_nil, ?_⟩
      obtain ⟨gw5, cw5, rfl⟩ := hrw5.form
      refine Zi 1023 9 rfl (p_assign Y) <| lin_nil ?_
      refine Zn [0, 3, 4] ?_
      refine Zx <| Zq <| at_draw (n := 14) (0 :: 0 :: 0 :: 6 :: 14 :: 30 :: 0 :: 0 :: 192 :: 478 :: 1022 :: 2046 :: 4095 :: 8191 :: []) 6672 (by kernel_rfl) (by kernel_rfl) rfl ?_
      refine Zi 1 0 rfl (p_move Y) <| Zi 3 1 rfl (p_move Y) <| Zi 7 2 rfl (p_move Y) ?_
      (refine lin_v (D' := 15) 3 (p_slice_slice_to underlying35 sizeOf9 Y Y ?_) ?_; (focus (first | omega | decide | (simp; done))))
      refine Zi 79 6 rfl (p_move Y) <| Zi 207 7 rfl (p_move Y) ?_
      (refine lin_v (D' := 463) 8 (p_slice_slice_from1 underlying35 sizeOf9 Y Y ?_ ?_) ?_; (focus (first | omega | decide | (simp; done))); (focus (first | omega | decide | (simp; done))))
      refine Zz (l := [4]) ?_
      refine Zy 14 479 [] [] [] rfl Y rfl rfl rfl rfl (Zu [_] Y call35 Y rfl (r2_root _ (Nat.le_refl _) (ls := ls.take (leftN ls.length)) (by exact hvt) (by rw [hlt2]; omega) (fun s h => hs s (List.mem_of_mem_take h)))) ?hk_6 (fun _ _ h => h.elim) ?hl_6
      case hk_6 =>
       rintro _ _ ⟨rfl, rfl⟩
       refine ⟨keep_nil, ?_⟩
       (refine lin_v (D' := 511) 5 (p_add_str Y Y ?_) ?_; (focus ((show 1 + _ ≤ _; rw [str_size, root_len]; omega))))
       refine Zz (l := [9]) ?_
       refine Zy 478 1023 [] [] [] rfl Y rfl rfl rfl rfl (Zu [_] Y call35 Y rfl (r2_root _ (Nat.le_refl _) (ls := ls.drop (leftN ls.length)) (by exact hvd) (by rw [List.length_drop]; omega) (fun s h => hs s (List.mem_of_mem_drop h)))) ?hk_7 (fun _ _ h => h.elim) ?hl_7
       case hk_7 =>
        rintro _ _ ⟨rfl, rfl⟩
        refine ⟨keep_nil, ?_⟩
        (refine lin_v (D' := 2047) 10 (p_add_str Y Y ?_) ?_; (focus ((show (str [1] ++ str _).size + (str _).size ≤ _; rw [str_app, str_size, str_size, List.length_append, root_len, root_len]; decide))))
        refine Zz (l := [11]) ?_
        refine Zy 2046 4095 [] [] [] rfl Y rfl rfl rfl rfl (w_buildSlice (vs := [_]) (cs := [_]) underlying35 sizeOf9 zeroValue9 Y rfl rfl rfl rfl rfl) ?hk_8 (fun _ _ h => h.elim) ?hl_8
        case hk_8 =>
         rintro _ _ ⟨g3, rfl, rfl⟩
         refine ⟨keep_nil, ?_⟩
         refine Zz (l := [12]) ?_
         refine Zy 4095 8191 [] [] [] rfl Y rfl rfl rfl rfl (w_appendS (by_ := 16) (sz := 1) (news := [_]) underlying35 (rfl : Tryz.prog.info? 9 = some Tryz.t9) rfl rfl rfl rfl Y hrw5 Y (by repeat (first | exact One.here _ _ | apply One.there)) (by repeat (first | exact Has.here _ | apply Has.there)) (by rfl) rfl (by simp [Value.oneCell']) (by decide) (by omega) (by omega)) ?hk_9 (fun _ _ h => h.elim) ?hl_9
         case hk_9 =>
          rintro _ _ ⟨sw6, hrw6, rfl⟩
          refine ⟨keep_nil, ?_⟩
          obtain ⟨gw6, cw6, rfl⟩ := hrw6.form
          refine Zi 16383 13 rfl (p_assign Y) <| lin_nil ?_
          refine Zn [2] ?_
          refine Zx <| at_ret ?_
          refine nx_end1 rfl results70 Y (by exact ⟨_, rowS_eq hrw6 (by rw [hashed_more h9, List.length_append, List.length_append]; rfl) (by rw [hashed_more h9, List.map_append, List.map_append, List.map_singleton]; unfold strV; rw [show (⟨#[1]⟩ : ByteArray) = str [1] from rfl, str_app, str_app]; rfl), rfl⟩)
         case hl_9 =>
          exact each_nil
        case hl_8 =>
         exact each_nil
       case hl_7 =>
        exact each_nil
      case hl_6 =>
       exact each_nil
     case hl_5 =>
      exact each_nil
    case hl_4 =>
     exact each_nil
   case hl_3 =>
    exact each_nil

theorem r10_hashed : ∀ (n : Nat) {M : List Chunk} {v : Value} {ls : List Bs}, ls.length ≤ n → StrsU M v ls → ls.length ≤ 1000000 → (∀ s ∈ ls, s.length ≤ 1099511627000) → Does Tryz.prog 70 #[v] [M] (fun r H' => ∃ so, RowS 1 9 r (hashedT ls).length ((hashedT ls).map strV) so ∧ H' = [so, M])
  | 0, _, _, ls, h, hv, hn, hs => r10_hashed_step ls.length (fun h9 => absurd h9 (by omega)) rfl hv hn hs
  | n + 1, _, _, ls, h, hv, hn, hs => r10_hashed_step ls.length (fun h9 hv2 hn2 hs2 => r10_hashed n (by omega) hv2 hn2 hs2) rfl hv hn hs

theorem r10_coll {M M' : List Chunk} {va vb : Value} {a b : List Bs} (ha : StrsU M va a) (hb : StrsU M' vb b) (hna : a.length ≤ 10000000000) (hsa : ∀ s ∈ a, s.length ≤ 1099511627000) (hsb : ∀ s ∈ b, s.length ≤ 1099511627000) : DoesR Tryz.prog 26 #[va, vb] [M, M'] (.bool (decide (Coll a b))) := by
 have hml : maxLen = 9223372036854775807 := rfl
 obtain ⟨pa, ca, rfl, hla, hga⟩ := ha
 obtain ⟨pb, cb, rfl, hlb, hgb⟩ := hb
 refine spec_enter func26 rfl ntmps26 rfl ?_
 intro u R
 refine Zb [0, 1] ?_
 refine Zq <| Zg <| Za Y <| Z0 <| Zx <| Zq <| Zg <| Za Y <| Z0 <| Zx <| Zq <| Zq <| Zg <| Za Y <| Z0 <| Zx <| at_block <| at_nil ?_
 refine Zb [5, 6, 0, 1] ?_
 refine at_loopB (e0 := [(5, _), (6, _)]) (H0 := _) (n := _) (fun m e H => ∃ (i : Nat) (vx : Value) (sx : List Chunk), m = a.length - i ∧ (i ≤ a.length ∧ RowS 1 9 vx i ((a.take i).map shaV) sx) ∧ e = [(5, vx), (6, .int .i64 (i : Int))] ∧ H = [sx]) (by exact ⟨0, .slice none 0 0, [], rfl, ⟨Nat.zero_le _, rowS_nil 1 _⟩, rfl, rfl⟩) (by repeat (first | exact Pull.nil _ | (apply Pull.cons; (focus (repeat (first | exact One.here _ _ | apply One.there)))))) ?_
 rintro _ _ _ ⟨i, vx, sx, rfl, ⟨hi, hrx⟩, rfl, rfl⟩
 obtain ⟨qx, cx, rfl⟩ := hrx.form
 refine Zq <| Zq <| Zg <| Zm Y <| Zm Y <| Zv (p_len_slice underlying35 Y) <| Zv (p_lss_nat Y Y) <| Z0 <| Zx ?_
 refine at_if Y (fun hlt => ?_) (fun hlt => ?_)
 ·
  obtain ⟨x, hx⟩ : ∃ x, a[i]? = some x := ⟨_, List.getElem?_eq_getElem hlt⟩
  obtain ⟨g1, off1, cur1, T1, zz1, rfl, hm1, hex1⟩ := hga i x hx
  have hxs := hsa x (List.mem_of_getElem? hx)
  refine at_skip <| Zx <| Zq <| at_block <| Zg <| Zm Y <| Zm Y <| Zm Y ?_
  (refine op_v (p_indexAddr_nat1 underlying35 sizeOf9 Y Y ?_) ?_; (focus (first | omega | decide | (simp; done))))
  refine op_rm (cs := [(g1, .cells cur1 T1 zz1)]) (by simp [hm1]) (p_load isAgg9 Y (by exact hex1)) rfl rfl ?_
  refine Zr [_] Y call69 Y rfl (rsum_spec x (by omega)) ?_
  rintro _ _ ⟨rfl, rfl⟩
  refine Ze (w_buildSlice (vs := [_]) (cs := [_]) underlying35 sizeOf9 zeroValue9 Y rfl rfl rfl rfl rfl) ?_
  rintro _ _ ⟨gs, rfl, rfl⟩
  refine Ze (w_appendS (by_ := 16) (sz := 1) (news := [_]) underlying35 (rfl : Tryz.prog.info? 9 = some Tryz.t9) rfl rfl rfl rfl Y hrx Y (by repeat (first | exact One.here _ _ | apply One.there)) (by repeat (first | exact Has.here _ | apply Has.there)) (by rfl) rfl (by simp [Value.oneCell']) (by decide) (by omega) (by omega)) ?_
  rintro _ _ ⟨sw5, hrw5, rfl⟩
  obtain ⟨gw5, cw5, rfl⟩ := hrw5.form
  refine Za Y <| Z0 <| Zn [0, 1, 5, 6] ?_
  refine nx_block_normal <| Zx <| Zg <| Zm Y <| Ya (n := 1) Y Y <| Za Y <| Z0 <| Zn [5, 6, 0, 1] ?_
  refine nx_againB (e' := [(5, _), (6, _)]) (m := _) (H' := _) (by exact ⟨i + 1, _, _, rfl, ⟨by omega, rowS_eq hrw5 rfl (by rw [take_snoc hx, List.map_append]; rfl)⟩, rfl, rfl⟩)
 ·
  have ei : i = a.length := by omega
  subst ei
  rw [List.take_length] at hrx
  refine at_exit <| Zt <| Zt <| nx_block_exit <| Zx <| Zq <| Zq <| Zg <| Za Y <| Z0 <| Zx <| at_block <| Zb [7, 0, 1, 5] ?_
  refine at_loopB (e0 := [(7, _)]) (H0 := _) (n := _) (fun m e H => ∃ (k : Nat), m = b.length - k ∧ (k ≤ b.length ∧ ∀ y ∈ b.take k, ∀ z ∈ a, ¬ (z ≠ y ∧ sha z = sha y)) ∧ e = [(7, .int .i64 (k : Int))] ∧ H = []) (by exact ⟨0, rfl, ⟨Nat.zero_le _, by simp⟩, rfl, rfl⟩) (by repeat (first | exact Pull.nil _ | (apply Pull.cons; (focus (repeat (first | exact One.here _ _ | apply One.there)))))) ?_
  rintro _ _ _ ⟨k, rfl, ⟨hk, hall⟩, rfl, rfl⟩
  refine Zq <| Zq <| Zg <| Zm Y <| Zm Y <| Zv (p_len_slice underlying35 Y) <| Zv (p_lss_nat Y Y) <| Z0 <| Zx ?_
  refine at_if Y (fun hkt => ?_) (fun hkt => ?_)
  ·
   obtain ⟨y, hy⟩ : ∃ y, b[k]? = some y := ⟨_, List.getElem?_eq_getElem hkt⟩
   obtain ⟨g2, off2, cur2, T2, zz2, rfl, hm2, hex2⟩ := hgb k y hy
   have hys := hsb y (List.mem_of_getElem? hy)
   refine at_skip <| Zx <| Zq <| at_block <| Zq <| Zg <| Zm Y <| Zm Y ?_
   (refine op_v (p_indexAddr_nat1 underlying35 sizeOf9 Y Y ?_) ?_; (focus (first | omega | decide | (simp; done))))
   refine op_rm (cs := [(g2, .cells cur2 T2 zz2)]) (by simp [hm2]) (p_load isAgg9 Y (by exact hex2)) rfl rfl ?_
   refine Zr [_] Y call69 Y rfl (rsum_spec y (by omega)) ?_
   rintro _ _ ⟨rfl, rfl⟩
   refine Za Y <| Z0 <| Zx <| Zq <| Zg <| Za Y <| Z0 <| Zx <| at_block <| Zb [9, 0, 1, 5, 7, 8] ?_
   refine at_loopB (e0 := [(9, _)]) (H0 := _) (n := _) (fun m e H => ∃ (j : Nat), m = a.length - j ∧ (j ≤ a.length ∧ ∀ z ∈ a.take j, ¬ (z ≠ y ∧ sha z = sha y)) ∧ e = [(9, .int .i64 (j : Int))] ∧ H = []) (by exact ⟨0, rfl, ⟨Nat.zero_le _, by simp⟩, rfl, rfl⟩) (by repeat (first | exact Pull.nil _ | (apply Pull.cons; (focus (repeat (first | exact One.here _ _ | apply One.there)))))) ?_
   rintro _ _ _ ⟨j, rfl, ⟨hj, hin⟩, rfl, rfl⟩
   refine Zq <| Zq <| Zg <| Zm Y <| Zm Y <| Zv (p_len_slice underlying35 Y) <| Zv (p_lss_nat Y Y) <| Z0 <| Zx ?_
   refine at_if Y (fun hjt => ?_) (fun hjt => ?_)
   ·
    obtain ⟨x, hx⟩ : ∃ x, a[j]? = some x := ⟨_, List.getElem?_eq_getElem hjt⟩
    obtain ⟨g1, off1, cur1, T1, zz1, rfl, hm1, hex1⟩ := hga j x hx
    obtain ⟨gx, capx, curx, zx, hvx, rfl, hlex, hgx⟩ := rowS_get hrx (by omega)
    injection hvx with e1 e2 e3
    subst e1 e3
    have hxx : curx[j]? = some (shaV x) := hgx j _ (by rw [List.getElem?_map, hx]; rfl)
    refine at_skip <| Zx <| Zq <| at_block <| Zq <| at_draw (n := 17) (0 :: 0 :: 3 :: 7 :: 0 :: 31 :: 63 :: 127 :: 127 :: 511 :: 1023 :: 127 :: 127 :: 6271 :: 14463 :: 32767 :: 65535 :: []) 0 (by kernel_rfl) (by kernel_rfl) rfl ?_
    refine Zi 1 0 rfl (p_move Y) <| Zi 3 1 rfl (p_move Y) ?_
    (refine lin_v (D' := 7) 2 (p_indexAddr_nat0 underlying35 sizeOf9 Y Y ?_) ?_; (focus (first | omega | decide | (simp; done))))
    refine Zj 15 3 rfl isAgg9 Y (hv := by exact hxx) ?_
    refine Zi 31 4 rfl (p_move Y) <| Zi 63 5 rfl (p_eql_str Y Y) <| Zi 127 6 rfl (p_move Y) ?_
    refine lin_split (t := 47) Y (fun hd1 => ?_) (fun hd1 => ?_)
    ·
     first | rw [decide_eq_true hd1] | rw [hd1] | skip
     have hd1e := str_inj hd1
     refine lin_wg (D' := 255) 7 Y rfl rfl rfl (p_move Y) ?_
     refine lin_wg (D' := 511) 8 Y rfl rfl rfl (p_move Y) ?_
     (refine lin_wg (D' := 1023) 9 Y rfl rfl rfl (p_indexAddr_nat1 underlying35 sizeOf9 Y Y ?_) ?_; (focus (first | omega | decide | (simp; done))))
     refine lin_rgm (b := g1) (x := .cells cur1 T1 zz1) (D' := 2047) 10 Y rfl rfl rfl (by simp [hm1]) (p_load isAgg9 Y (by exact hex1)) ?_
     refine lin_wg (D' := 4095) 11 Y rfl rfl rfl (p_move Y) ?_
     refine lin_wg (D' := 8191) 12 Y rfl rfl rfl (p_move Y) ?_
     (refine lin_wg (D' := 16383) 13 Y rfl rfl rfl (p_indexAddr_nat1 underlying35 sizeOf9 Y Y ?_) ?_; (focus (first | omega | decide | (simp; done))))
     refine lin_rgm (b := g2) (x := .cells cur2 T2 zz2) (D' := 32767) 14 Y rfl rfl rfl (by simp [hm2]) (p_load isAgg9 Y (by exact hex2)) ?_
     refine lin_wg (D' := 65535) 15 Y rfl rfl rfl (p_neq_str Y Y) ?_
     refine Zi 131071 16 rfl (p_pick_t Y Y) <| lin_nil ?_
     refine Zn [0, 1, 5, 7, 8, 9, 57] ?_
     refine Zx ?_
     refine at_if Y (fun hd2 => ?_) (fun hd2 => ?_)
     ·
      refine Zq <| Zg <| Za Y <| Z0 <| Zx <| at_ret <| nx_block_ret <| Zt <| Zt <| nx_block_ret <| nx_block_ret <| Zt <| Zt <| nx_block_ret <| Zt ?_
      refine nx_end1 rfl results26 Y (by exact ⟨congrArg Value.bool (decide_eq_true (show Coll a b from ⟨x, List.mem_of_getElem? hx, y, List.mem_of_getElem? hy, fun e => hd2 (by rw [e]), hd1e⟩)).symm, rfl⟩)
     ·
      refine at_skip <| nx_block_normal <| Zx <| Zg <| Zm Y <| Ya (n := 1) Y Y <| Za Y <| Z0 <| Zn [9, 0, 1, 5, 7, 8] ?_
      refine nx_againB (e' := [(9, _)]) (m := _) (H' := _) (by exact ⟨j + 1, rfl, ⟨by omega, coll_snoc hx hin (by intro h9; (exact hd2 (fun h8 => h9.1 (str_inj h8))))⟩, rfl, rfl⟩)
    ·
     first | rw [decide_eq_false hd1] | rw [hd1] | skip
     refine Yk 255 7 rfl <| Yk 511 8 rfl <| Yk 1023 9 rfl <| Yk 2047 10 rfl <| Yk 4095 11 rfl <| Yk 8191 12 rfl <| Yk 16383 13 rfl <| Yk 32767 14 rfl <| Yk 65535 15 rfl <| Zi 131071 16 rfl (p_pick_f Y Y) <| lin_nil ?_
     refine Zn [0, 1, 5, 7, 8, 9, 57] ?_
     refine Zx <| at_else Y <| at_skip <| nx_block_normal <| Zx <| Zg <| Zm Y <| Ya (n := 1) Y Y <| Za Y <| Z0 <| Zn [9, 0, 1, 5, 7, 8] ?_
     refine nx_againB (e' := [(9, _)]) (m := _) (H' := _) (by exact ⟨j + 1, rfl, ⟨by omega, coll_snoc hx hin (by intro h9; exact hd1 (by rw [h9.2]))⟩, rfl, rfl⟩)
   ·
    rw [List.take_of_length_le (by omega)] at hin
    refine at_exit <| Zt <| Zt <| nx_block_exit <| nx_block_normal <| Zx <| Zg <| Zm Y <| Ya (n := 1) Y Y <| Za Y <| Z0 <| Zn [7, 0, 1, 5] ?_
    refine nx_againB (e' := [(7, _)]) (m := _) (H' := _) (by exact ⟨k + 1, rfl, ⟨by omega, fun w hw => by rw [take_snoc hy] at hw; rcases List.mem_append.1 hw with h9 | h9; exact hall w h9; rw [List.mem_singleton.1 h9]; exact hin⟩, rfl, rfl⟩)
  ·
   refine at_exit <| Zt <| Zt <| nx_block_exit <| Zx <| Zq <| Zg <| Za Y <| Z0 <| Zx <| at_ret ?_
   refine nx_end1 rfl results26 Y (by exact ⟨congrArg Value.bool (decide_eq_false (show ¬ Coll a b from fun ⟨z, hz, y, hy, h9⟩ => hall y (by rw [List.take_of_length_le (by omega)]; exact hy) z hz h9)).symm, rfl⟩)

end Go.Proofs.YtjeepldonhgohaaGreatDoor
