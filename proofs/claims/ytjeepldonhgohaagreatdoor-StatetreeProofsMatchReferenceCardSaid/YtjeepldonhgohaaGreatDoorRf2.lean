/- The reference of chapter 2. The reference of chapter 2: block. -/
import Derived.Test.YtjeepldonhgohaaGreatDoorEz
import Derived.Test.YtjeepldonhgohaaGreatDoorWi2
import Derived.Test.YtjeepldonhgohaaGreatDoorEx14
import Derived.Test.YtjeepldonhgohaaGreatDoorTr3

namespace Go.Proofs.YtjeepldonhgohaaGreatDoor
open Go.Proofs.Tryz
open Go Go.RowKit Gw
set_option linter.unusedVariables false
set_option linter.unusedSimpArgs false
set_option maxRecDepth 100000
attribute [local irreducible] Gw.At Gw.Nx Gw.Ops
theorem rot_ref (x : UInt32) (n m : Nat) (h0 : 0 < n) (h1 : n < 32) (hm : n + m = 32) : (x >>> UInt32.ofNat n) ||| (x <<< UInt32.ofNat m) = rotr x (UInt32.ofNat n) := by
  rw [UInt32.or_comm]; exact rot_lemma x n m h0 h1 hm
theorem mix_two (x a b : UInt32) : mixL x [a, b] = rotr x a ^^^ rotr x b := by simp [mixL]
theorem mix_three (x a b c : UInt32) : mixL x [a, b, c] = rotr x a ^^^ rotr x b ^^^ rotr x c := by simp [mixL]
theorem words_map (b : List UInt8) (k : Nat) (x : UInt32) (h : words b (k + 1) = words b k ++ [x]) : (words b (k + 1)).map u32v = (words b k).map u32v ++ [u32v x] := by rw [h, List.map_append]; rfl
theorem row_at {e : TypeId} {v : Value} {l : List UInt32} {g cap : Nat} {cur : Array Value} (htk : cur.toList.take (l.map u32v).length = l.map u32v) (i : Nat) (h : i < l.length) : cur[i]? = some (u32v (l.getD i 0)) := by
  have h1 : (cur.toList.take (l.map u32v).length)[i]? = (l.map u32v)[i]? := by rw [htk]
  rw [List.length_map, List.getElem?_take, if_pos h, Array.getElem?_toList, List.getElem?_map, List.getElem?_eq_getElem h] at h1
  rw [h1]
  simp [List.getD_eq_getElem?_getD, List.getElem?_eq_getElem h]

theorem rrot_spec (x : UInt32) (n : Nat) (h0 : 0 < n) (h1 : n < 32) : DoesR Tryz.prog 130 #[.int .u32 (x.toNat : Int), .int .i64 (n : Int)] [] (.int .u32 ((rotr x (UInt32.ofNat n)).toNat : Int)) := by
 refine spec_enter func130 rfl ntmps130 rfl ?_
 intro u R
 refine Zb [0, 1] ?_
 refine Zq <| Zg <| Za Y <| Z0 <| Zx <| Zq <| at_draw (n := 9) (0 :: 0 :: 3 :: 0 :: 0 :: 16 :: 56 :: 127 :: 255 :: []) 0 (by kernel_rfl) (by kernel_rfl) rfl ?_
 refine Zi 1 0 rfl (p_move Y) <| Zi 3 1 rfl (p_move Y) ?_
 (refine lin_v (D' := 7) 2 (p_shr_u32 Y Y ?_) ?_; (focus (omega)))
 refine Zi 15 3 rfl (p_move Y) <| Zi 31 4 rfl (p_move Y) ?_
 (refine lin_v (D' := 63) 5 (p_sub_nat (m := 32) Y Y ?_ ?_) ?_; (focus (omega)); (focus (omega)))
 (refine lin_v (D' := 127) 6 (p_shl_u32 Y Y ?_) ?_; (focus (omega)))
 refine Zi 255 7 rfl (p_or_u32 Y Y) <| Zi 511 8 rfl (p_assign Y) <| lin_nil ?_
 refine Zx <| at_ret ?_
 refine nx_end1 rfl results130 Y (by exact ⟨by rw [rot_ref x n (32 - n) h0 h1 (by omega)], rfl⟩)

theorem rconst_spec : Does Tryz.prog 131 #[] [] (fun r H' => ∃ g, r = .slice (some ⟨g, 0, none⟩) 64 64 ∧ H' = [[(g, .cells (kTab.map u32v).toArray 108 (0, 0))]]) := by
 refine spec_enter func131 rfl ntmps131 rfl ?_
 intro u R
 refine Zb [] ?_
 refine Zq <| Zg <| Za Y <| Z0 <| Zx <| Zq <| Zg <| Ze (w_buildSlice (vs := [_, _, _, _, _, _, _, _, _, _, _, _, _, _, _, _, _, _, _, _, _, _, _, _, _, _, _, _, _, _, _, _, _, _, _, _, _, _, _, _, _, _, _, _, _, _, _, _, _, _, _, _, _, _, _, _, _, _, _, _, _, _, _, _]) (cs := [_, _, _, _, _, _, _, _, _, _, _, _, _, _, _, _, _, _, _, _, _, _, _, _, _, _, _, _, _, _, _, _, _, _, _, _, _, _, _, _, _, _, _, _, _, _, _, _, _, _, _, _, _, _, _, _, _, _, _, _, _, _, _, _]) underlying160 sizeOf108 zeroValue108 Y rfl rfl rfl rfl rfl) ?_
 rintro _ _ ⟨g, rfl, rfl⟩
 refine Za Y <| Z0 <| Zx <| at_ret ?_
 refine nx_end1 rfl results131 Y (by exact ⟨g, rfl, rfl⟩)

theorem rext_spec (l : List UInt8) (hs : l.length ≤ 140737488355000) : Does Tryz.prog 108 #[.string (str l)] [] (fun r H' => ∃ sv, Row 5 r ((padded l).map u8v) sv ∧ H' = [sv]) := by
 have hml : maxLen = 9223372036854775807 := rfl
 have hn := str_size l
 have hz : zpad l.length < 64 := by unfold zpad; omega
 refine spec_enter func108 rfl ntmps108 rfl ?_
 intro u R
 refine Zb [0] ?_
 refine Zq <| Zg <| Za Y <| Z0 <| Zx <| Zq <| Zg <| Za Y <| Z0 <| Zx <| Zq <| Zq <| Zg <| Za Y <| Z0 <| Zx <| at_block <| at_nil ?_
 refine Zb [3, 4, 0] ?_
 refine at_loopB (e0 := [(3, _), (4, _)]) (H0 := _) (n := _) (fun m e H => ∃ (i : Nat) (v : Value) (sv : List Chunk), m = l.length - i ∧ (i ≤ l.length ∧ Row 5 v ((l.take i).map u8v) sv) ∧ e = [(3, v), (4, .int .i64 (i : Int))] ∧ H = [sv]) (by exact ⟨0, _, [], rfl, ⟨Nat.zero_le _, row_nil _⟩, rfl, rfl⟩) (by repeat (first | exact Pull.nil _ | (apply Pull.cons; (focus (repeat (first | exact One.here _ _ | apply One.there)))))) ?_
 rintro _ _ _ ⟨i, v, sv, rfl, ⟨hi, hrv⟩, rfl, rfl⟩
 obtain ⟨gv, cv, rfl⟩ := hrv.form
 have htl : (l.take i).length ≤ i := List.length_take_le ..
 refine Zq <| Zq <| Zg <| Zm Y <| Zm Y <| Zv (p_len_str underlying9 Y) <| Zv (p_lss_nat Y Y) <| Z0 <| Zx ?_
 refine at_if Y (fun hlt => ?_) (fun hlt => ?_)
 ·
  refine at_skip <| Zx <| Zq <| at_block ?_
  have hby : byteAt (str l) i = l.getD i 0 := by simp [byteAt, str]
  refine Zg <| Zm Y <| Zm Y <| Zm Y ?_
  (refine op_v (p_index_str underlying9 Y Y (byteAt_get _ _ ?_)) ?_; (focus (omega)))
  refine Ze (w_buildSlice (vs := [_]) (cs := [_]) underlying111 sizeOf5 zeroValue5 Y rfl rfl rfl rfl rfl) ?_
  rintro _ _ ⟨b1, rfl, rfl⟩
  refine Ze (w_append (by_ := 1) (news := [_]) underlying111 (rfl : Tryz.prog.info? 5 = some Tryz.t5) rfl rfl rfl rfl Y hrv Y (by repeat (first | exact One.here _ _ | apply One.there)) (by repeat (first | exact Has.here _ | apply Has.there)) (by rfl) rfl (by simp [Value.oneCell']) (by decide) (by (simp only [List.length_map, hn]; omega)) (by (simp only [List.length_map, hn]; omega))) ?_
  rintro _ _ ⟨sq, hrq, rfl⟩
  obtain ⟨gq, cq, rfl⟩ := hrq.form
  refine Za Y <| Z0 <| nx_block_normal <| Zx <| Zg <| Zm Y <| Ya (n := 1) Y Y <| Za Y <| Z0 <| Zn [3, 4, 0] ?_
  refine nx_againB (e' := [(3, _), (4, _)]) (m := _) (H' := _) (by exact ⟨i + 1, _, _, rfl, ⟨by omega, by rw [take_step u8v l i 0 (by omega), ← hby]; exact hrq⟩, rfl, rfl⟩)
 ·
  have ei : l.take i = l := List.take_of_length_le (by omega)
  rw [ei] at hrv ⊢
  refine at_exit <| Zt <| Zt <| nx_block_exit <| Zx <| Zq <| Zg <| Zm Y <| Ze (w_buildSlice (vs := [_]) (cs := [_]) underlying111 sizeOf5 zeroValue5 Y rfl rfl rfl rfl rfl) ?_
  rintro _ _ ⟨b3, rfl, rfl⟩
  refine Ze (w_append (by_ := 1) (news := [_]) underlying111 (rfl : Tryz.prog.info? 5 = some Tryz.t5) rfl rfl rfl rfl Y hrv Y (by repeat (first | exact One.here _ _ | apply One.there)) (by repeat (first | exact Has.here _ | apply Has.there)) (by rfl) rfl (by simp [Value.oneCell']) (by decide) (by (simp only [List.length_map, hn]; omega)) (by (simp only [List.length_map, hn]; omega))) ?_
  rintro _ _ ⟨sw, hrw, rfl⟩
  obtain ⟨gw, cw, rfl⟩ := hrw.form
  refine Za Y <| Z0 <| Zx <| Zq <| at_block ?_
  have hr0 : (padZ l 0).map u8v = List.map u8v l ++ [Value.int IntKind.u8 128] := by simp [padZ, u8v]
  refine Zb [3, 0] ?_
  refine at_loopB (e0 := [(3, _)]) (H0 := _) (n := _) (fun m e H => ∃ (k : Nat) (v : Value) (sv : List Chunk), m = zpad l.length - k ∧ (k ≤ zpad l.length ∧ Row 5 v ((padZ l k).map u8v) sv) ∧ e = [(3, v)] ∧ H = [sv]) (by exact ⟨0, _, _, rfl, ⟨Nat.zero_le _, by rw [hr0]; exact hrw⟩, rfl, rfl⟩) (by repeat (first | exact Pull.nil _ | (apply Pull.cons; (focus (repeat (first | exact One.here _ _ | apply One.there)))))) ?_
  rintro _ _ _ ⟨k, v, sv, rfl, ⟨hk, hrv⟩, rfl, rfl⟩
  obtain ⟨gv, cv, rfl⟩ := hrv.form
  refine Zq <| Zq <| Zg <| Zm Y <| Zv (p_len_slice underlying111 Y) ?_
  (refine op_v (p_rem_nat (n := 64) Y Y ?_) ?_; (focus (omega)))
  refine Zv (p_neq_nat (n := 56) Y Y) <| Z0 <| Zx ?_
  refine at_if Y (fun hlen => ?_) (fun hlen => ?_)
  ·
   rw [List.length_map, padZ_len] at hlen
   have hk2 := zpad_lt _ _ hk hlen
   refine at_skip <| Zx <| at_block <| Zg <| Zm Y <| Ze (w_buildSlice (vs := [_]) (cs := [_]) underlying111 sizeOf5 zeroValue5 Y rfl rfl rfl rfl rfl) ?_
   rintro _ _ ⟨b5, rfl, rfl⟩
   refine Ze (w_append (by_ := 1) (news := [_]) underlying111 (rfl : Tryz.prog.info? 5 = some Tryz.t5) rfl rfl rfl rfl Y hrv Y (by repeat (first | exact One.here _ _ | apply One.there)) (by repeat (first | exact Has.here _ | apply Has.there)) (by rfl) rfl (by simp [Value.oneCell']) (by decide) (by (simp only [List.length_map, padZ_len]; omega)) (by (simp only [List.length_map, padZ_len]; omega))) ?_
   rintro _ _ ⟨sc, hrc, rfl⟩
   obtain ⟨gc, cc, rfl⟩ := hrc.form
   refine Za Y <| Z0 <| nx_block_normal <| Zn [3, 0] ?_
   refine nx_againB (e' := [(3, _)]) (m := _) (H' := _) (by exact ⟨k + 1, _, _, rfl, ⟨hk2, by rw [← padZ_step]; exact hrc⟩, rfl, rfl⟩)
  ·
   rw [List.length_map, padZ_len] at hlen
   have ek := zpad_eq _ _ hk (by omega)
   subst ek
   refine at_exit <| Zt <| Zt <| nx_block_exit <| Zx <| Zq <| Zq <| Zg <| Za Y <| Z0 <| Zx <| at_block <| Zb [3, 5, 0] ?_
   refine at_loopB (e0 := [(3, _), (5, _)]) (H0 := _) (n := _) (fun m e H => ∃ (j : Nat) (i : Int) (v : Value) (sv : List Chunk), m = 8 - j ∧ (j ≤ 8 ∧ i = 7 - (j : Int) ∧ Row 5 v ((padL l j).map u8v) sv) ∧ e = [(3, v), (5, .int .i64 i)] ∧ H = [sv]) (by exact ⟨0, _, _, _, rfl, ⟨Nat.zero_le _, rfl, by rw [padL_zero]; exact hrv⟩, rfl, rfl⟩) (by repeat (first | exact Pull.nil _ | (apply Pull.cons; (focus (repeat (first | exact One.here _ _ | apply One.there)))))) ?_
   rintro _ _ _ ⟨j, i, v, sv, rfl, ⟨hj, hi, hrv⟩, rfl, rfl⟩
   obtain ⟨gv, cv, rfl⟩ := hrv.form
   refine Zq <| Zq <| Zg <| Zm Y <| Zv (p_geq Y Y) <| Z0 <| Zx ?_
   refine at_if Y (fun hi0 => ?_) (fun hi0 => ?_)
   ·
    obtain ⟨q, rfl⟩ := Int.eq_ofNat_of_zero_le hi0
    refine at_skip <| Zx <| Zq <| at_block <| Zg <| Zm Y <| Zm Y <| Zv (p_len_str underlying9 Y) ?_
    (refine op_v (p_mul_nat (m := 8) Y Y ?_) ?_; (focus (omega)))
    refine Zm Y ?_
    (refine op_v (p_mul_nat (m := 8) Y Y ?_) ?_; (focus (omega)))
    (refine op_v (p_shr_nat Y Y ?_) ?_; (focus (first | decide | (simp [IntKind.bits]; done) | (simp [IntKind.bits]; omega))))
    refine op_w (p_conv_int underlying3 underlying5 Y (lenByte _)) rfl rfl ?_
    refine Ze (w_buildSlice (vs := [_]) (cs := [_]) underlying111 sizeOf5 zeroValue5 Y rfl rfl rfl rfl rfl) ?_
    rintro _ _ ⟨b7, rfl, rfl⟩
    refine Ze (w_append (by_ := 1) (news := [_]) underlying111 (rfl : Tryz.prog.info? 5 = some Tryz.t5) rfl rfl rfl rfl Y hrv Y (by repeat (first | exact One.here _ _ | apply One.there)) (by repeat (first | exact Has.here _ | apply Has.there)) (by rfl) rfl (by simp [Value.oneCell']) (by decide) (by (simp only [List.length_map, padL_len l j hj]; omega)) (by (simp only [List.length_map, padL_len l j hj]; omega))) ?_
    rintro _ _ ⟨sd, hrd, rfl⟩
    obtain ⟨gd, cd, rfl⟩ := hrd.form
    refine Za Y <| Z0 <| Zn [0, 3, 5] ?_
    refine nx_block_normal <| Zx <| Zg <| Zm Y ?_
    (refine op_v (p_sub Y Y (IntWalk.i64_in _ ?_)) ?_; (focus (omega)))
    refine Za Y <| Z0 <| Zn [3, 5, 0] ?_
    refine nx_againB (e' := [(3, _), (5, _)]) (m := _) (H' := _) (by exact ⟨j + 1, _, _, _, rfl, ⟨by omega, by omega, by rw [← padL_step l j q (by omega)]; exact hrd⟩, rfl, rfl⟩)
   ·
    have ej : j = 8 := by omega
    subst ej
    rw [padL_full] at hrv ⊢
    refine at_exit <| Zt <| Zt <| nx_block_exit <| Zx <| Zq <| Zg <| Zm Y <| Za Y <| Z0 <| Zx <| at_ret ?_
    refine nx_end1 rfl results108 Y (by exact ⟨_, hrv, rfl⟩)

theorem words_at {b : List UInt8} {k i : Nat} {cur : Array Value} (htk : cur.toList.take ((words b k).map u32v).length = (words b k).map u32v) (h : i < k) : cur[i]? = some (.int .u32 (((words b k).getD i 0).toNat : Int)) :=
  row_at (e := 0) (v := .nilFunc) (g := 0) (cap := 0) htk i (by rw [words_len]; exact h)
theorem v8_at {v : V8} {cur : Array Value} (htk : cur.toList.take (v.list.map u32v).length = v.list.map u32v) (i : Nat) (h : i < 8) : cur[i]? = some (.int .u32 ((v.list.getD i 0).toNat : Int)) :=
  row_at (e := 0) (v := .nilFunc) (g := 0) (cap := 0) htk i h
theorem nextW_ref (w : List UInt32) (i : Nat) : nextW w i = w.getD (i - 16) 0 + (rotr (w.getD (i - 15) 0) (UInt32.ofNat 7) ^^^ rotr (w.getD (i - 15) 0) (UInt32.ofNat 18) ^^^ w.getD (i - 15) 0 >>> UInt32.ofNat 3) + w.getD (i - 7) 0 + (rotr (w.getD (i - 2) 0) (UInt32.ofNat 17) ^^^ rotr (w.getD (i - 2) 0) (UInt32.ofNat 19) ^^^ w.getD (i - 2) 0 >>> UInt32.ofNat 10) := by
  unfold nextW
  rw [mix_two, mix_two]; rfl
theorem add8_get (x y : V8) (i : Nat) (h : i < 8) : (add8 x y).list.getD i 0 = x.list.getD i 0 + y.list.getD i 0 := by
  rcases (by omega : i = 0 ∨ i = 1 ∨ i = 2 ∨ i = 3 ∨ i = 4 ∨ i = 5 ∨ i = 6 ∨ i = 7) with rfl | rfl | rfl | rfl | rfl | rfl | rfl | rfl <;> rfl
theorem round_vals (b : List UInt8) (hv : V8) (i : Nat) : (rounds (sched b) hv (i + 1)).list.map u32v =
    [.int .u32 (((rounds (sched b) hv i).list.getD 7 0 + (rotr ((rounds (sched b) hv i).list.getD 4 0) (UInt32.ofNat 6) ^^^ rotr ((rounds (sched b) hv i).list.getD 4 0) (UInt32.ofNat 11) ^^^ rotr ((rounds (sched b) hv i).list.getD 4 0) (UInt32.ofNat 25)) + ((rounds (sched b) hv i).list.getD 4 0 &&& (rounds (sched b) hv i).list.getD 5 0 ^^^ ~~~(rounds (sched b) hv i).list.getD 4 0 &&& (rounds (sched b) hv i).list.getD 6 0) + kTab.getD i 0 + (words b 64).getD i 0 +
        ((rotr ((rounds (sched b) hv i).list.getD 0 0) (UInt32.ofNat 2) ^^^ rotr ((rounds (sched b) hv i).list.getD 0 0) (UInt32.ofNat 13) ^^^ rotr ((rounds (sched b) hv i).list.getD 0 0) (UInt32.ofNat 22)) + ((rounds (sched b) hv i).list.getD 0 0 &&& (rounds (sched b) hv i).list.getD 1 0 ^^^ (rounds (sched b) hv i).list.getD 0 0 &&& (rounds (sched b) hv i).list.getD 2 0 ^^^ (rounds (sched b) hv i).list.getD 1 0 &&& (rounds (sched b) hv i).list.getD 2 0))).toNat : Int),
     .int .u32 (((rounds (sched b) hv i).list.getD 0 0).toNat : Int), .int .u32 (((rounds (sched b) hv i).list.getD 1 0).toNat : Int), .int .u32 (((rounds (sched b) hv i).list.getD 2 0).toNat : Int),
     .int .u32 (((rounds (sched b) hv i).list.getD 3 0 + ((rounds (sched b) hv i).list.getD 7 0 + (rotr ((rounds (sched b) hv i).list.getD 4 0) (UInt32.ofNat 6) ^^^ rotr ((rounds (sched b) hv i).list.getD 4 0) (UInt32.ofNat 11) ^^^ rotr ((rounds (sched b) hv i).list.getD 4 0) (UInt32.ofNat 25)) + ((rounds (sched b) hv i).list.getD 4 0 &&& (rounds (sched b) hv i).list.getD 5 0 ^^^ ~~~(rounds (sched b) hv i).list.getD 4 0 &&& (rounds (sched b) hv i).list.getD 6 0) + kTab.getD i 0 + (words b 64).getD i 0)).toNat : Int),
     .int .u32 (((rounds (sched b) hv i).list.getD 4 0).toNat : Int), .int .u32 (((rounds (sched b) hv i).list.getD 5 0).toNat : Int), .int .u32 (((rounds (sched b) hv i).list.getD 6 0).toNat : Int)] := by
  have e : rounds (sched b) hv (i + 1) = step8 (rounds (sched b) hv i) (kTab.getD i 0) ((words b 64).getD i 0) := rfl
  rw [e]
  generalize rounds (sched b) hv i = x
  generalize kTab.getD i 0 = k
  generalize (words b 64).getD i 0 = w
  obtain ⟨a, b, c, d, e, f, g, h⟩ := x
  simp only [V8.list, step8, Gw.stepT, Gw.stepU, mix_three, List.map_cons, List.map_nil, u32v, List.getD_cons_zero, List.getD_cons_succ]
  rfl
theorem blockS_get (hv : V8) (bl : List UInt8) (i : Nat) (h : i < 8) : (blockS hv bl).list.getD i 0 = hv.list.getD i 0 + (rounds (sched bl) hv 64).list.getD i 0 := add8_get _ _ i h
theorem k_at (i : Nat) (h : i < 64) : ((kTab.map u32v).toArray)[i]? = some (.int .u32 ((kTab.getD i 0).toNat : Int)) := get_map u32v kTab i 0 (by rw [kTab_len]; exact h)

theorem rblock_spec (gh caph gb ob capb : Nat) (curh curb : Array Value) (Th Tb : TypeId) (zh zb : Nat × Nat) (hv : V8) (bl : List UInt8) (hh : curh.toList.take (hv.list.map u32v).length = hv.list.map u32v) (hb : BytesIn curb ob bl) (hbl : bl.length = 64) :
    Does Tryz.prog 109 #[.slice (some ⟨gh, 0, none⟩) 8 caph, .slice (some ⟨gb, ob, none⟩) 64 capb] [[(gh, .cells curh Th zh)], [(gb, .cells curb Tb zb)]] (fun r H' => ∃ sv, Row 108 r ((blockS hv bl).list.map u32v) sv ∧ H' = [[(gh, .cells curh Th zh)], [(gb, .cells curb Tb zb)], sv]) := by
 have hml : maxLen = 9223372036854775807 := rfl
 refine spec_enter func109 rfl ntmps109 rfl ?_
 intro u R
 refine Zb [0, 1] ?_
 refine Zq <| Zg <| Za Y <| Z0 <| Zx <| Zq <| Zg <| Za Y <| Z0 <| Zx <| Zq <| Zq <| Zg <| Za Y <| Z0 <| Zx <| at_block <| at_nil ?_
 refine Zb [5, 6, 0, 1] ?_
 refine at_loopB (e0 := [(5, _), (6, _)]) (H0 := _) (n := _) (fun m e H => ∃ (i : Nat) (v : Value) (sv : List Chunk), m = 16 - i ∧ (i ≤ 16 ∧ Row 108 v ((words bl i).map u32v) sv) ∧ e = [(5, v), (6, .int .i64 (i : Int))] ∧ H = [sv]) (by exact ⟨0, _, [], rfl, ⟨Nat.zero_le _, row_nil _⟩, rfl, rfl⟩) (by repeat (first | exact Pull.nil _ | (apply Pull.cons; (focus (repeat (first | exact One.here _ _ | apply One.there)))))) ?_
 rintro _ _ _ ⟨i, v, sv, rfl, ⟨hi, hrv⟩, rfl, rfl⟩
 obtain ⟨gv, cv, rfl⟩ := hrv.form
 refine Zq <| Zq <| Zg <| Zm Y <| Zv (p_lss_nat (n := 16) Y Y) <| Z0 <| Zx ?_
 refine at_if Y (fun hi16 => ?_) (fun hi16 => ?_)
 ·
  refine at_skip <| Zx <| Zq <| at_block <| at_draw (n := 37) (0 :: 0 :: 0 :: 4 :: 14 :: 30 :: 62 :: 126 :: 0 :: 0 :: 512 :: 1536 :: 3840 :: 7936 :: 16128 :: 32512 :: 65534 :: 0 :: 0 :: 262144 :: 786432 :: 1966080 :: 4063232 :: 8257536 :: 16646144 :: 33554430 :: 0 :: 0 :: 134217728 :: 402653184 :: 1006632960 :: 2080374784 :: 4227858432 :: 8589934590 :: 17179869182 :: 34359738367 :: 68719476735 :: []) 51539607552 (by kernel_rfl) (by kernel_rfl) rfl ?_
  refine Zi 1 0 rfl (p_move Y) <| Zi 3 1 rfl (p_move Y) <| Zi 7 2 rfl (p_move Y) ?_
  (refine lin_v (D' := 15) 3 (p_mul_nat (m := 4) Y Y ?_) ?_; (focus (omega)))
  (refine lin_v (D' := 31) 4 (p_indexAddr_nat1 underlying111 sizeOf5 Y Y ?_) ?_; (focus (omega)))
  refine Zj 63 5 rfl isAgg5 Y (hv := by exact hb.get _ (by omega)) ?_
  refine Zi 127 6 rfl (p_conv_u8_u32 underlying5 underlying108 Y) ?_
  (refine lin_v (D' := 255) 7 (p_shl_u32 (n := 24) Y Y ?_) ?_; (focus (omega)))
  refine Zi 511 8 rfl (p_move Y) <| Zi 1023 9 rfl (p_move Y) ?_
  (refine lin_v (D' := 2047) 10 (p_mul_nat (m := 4) Y Y ?_) ?_; (focus (omega)))
  (refine lin_v (D' := 4095) 11 (p_add_nat (n := 1) Y Y ?_) ?_; (focus (omega)))
  (refine lin_v (D' := 8191) 12 (p_indexAddr_nat1 underlying111 sizeOf5 Y Y ?_) ?_; (focus (omega)))
  refine Zj 16383 13 rfl isAgg5 Y (hv := by exact hb.get _ (by omega)) ?_
  refine Zi 32767 14 rfl (p_conv_u8_u32 underlying5 underlying108 Y) ?_
  (refine lin_v (D' := 65535) 15 (p_shl_u32 (n := 16) Y Y ?_) ?_; (focus (omega)))
  refine Zi 131071 16 rfl (p_or_u32 Y Y) <| Zi 262143 17 rfl (p_move Y) <| Zi 524287 18 rfl (p_move Y) ?_
  (refine lin_v (D' := 1048575) 19 (p_mul_nat (m := 4) Y Y ?_) ?_; (focus (omega)))
  (refine lin_v (D' := 2097151) 20 (p_add_nat (n := 2) Y Y ?_) ?_; (focus (omega)))
  (refine lin_v (D' := 4194303) 21 (p_indexAddr_nat1 underlying111 sizeOf5 Y Y ?_) ?_; (focus (omega)))
  refine Zj 8388607 22 rfl isAgg5 Y (hv := by exact hb.get _ (by omega)) ?_
  refine Zi 16777215 23 rfl (p_conv_u8_u32 underlying5 underlying108 Y) ?_
  (refine lin_v (D' := 33554431) 24 (p_shl_u32 (n := 8) Y Y ?_) ?_; (focus (omega)))
  refine Zi 67108863 25 rfl (p_or_u32 Y Y) <| Zi 134217727 26 rfl (p_move Y) <| Zi 268435455 27 rfl (p_move Y) ?_
  (refine lin_v (D' := 536870911) 28 (p_mul_nat (m := 4) Y Y ?_) ?_; (focus (omega)))
  (refine lin_v (D' := 1073741823) 29 (p_add_nat (n := 3) Y Y ?_) ?_; (focus (omega)))
  (refine lin_v (D' := 2147483647) 30 (p_indexAddr_nat1 underlying111 sizeOf5 Y Y ?_) ?_; (focus (omega)))
  refine Zj 4294967295 31 rfl isAgg5 Y (hv := by exact hb.get _ (by omega)) ?_
  refine Zi 8589934591 32 rfl (p_conv_u8_u32 underlying5 underlying108 Y) <| Zi 17179869183 33 rfl (p_or_u32 Y Y) <| Zz (l := [34]) ?_
  refine Zy 17179869182 34359738367 [31, 22, 13, 5] [false, false, false, false] [] rfl Y rfl rfl rfl rfl (w_buildSlice (vs := [_]) (cs := [_]) underlying160 sizeOf108 zeroValue108 Y rfl rfl rfl rfl rfl) ?hk_2 (fun _ _ h => h.elim) ?hl_2
  case hk_2 =>
   rintro _ _ ⟨b1, rfl, rfl⟩
   refine ⟨keep_nil, ?_⟩
   refine Zz (l := [35]) ?_
   refine Zy 34359738367 68719476735 [] [] [] rfl Y rfl rfl rfl rfl (w_append (by_ := 4) (news := [_]) underlying160 (rfl : Tryz.prog.info? 108 = some Tryz.t108) rfl rfl rfl rfl Y hrv Y (by repeat (first | exact One.here _ _ | apply One.there)) (by repeat (first | exact Has.here _ | apply Has.there)) (by rfl) rfl (by simp [Value.oneCell']) (by decide) (by (simp only [List.length_map, words_len]; omega)) (by (simp only [List.length_map, words_len]; omega))) ?hk_3 (fun _ _ h => h.elim) ?hl_3
   case hk_3 =>
    rintro _ _ ⟨sq, hrq, rfl⟩
    refine ⟨keep_nil, ?_⟩
    obtain ⟨gq, cq, rfl⟩ := hrq.form
    refine Zi 137438953471 36 rfl (p_assign Y) <| lin_nil ?_
    refine Zn [0, 1, 5, 6] ?_
    refine nx_block_normal <| Zx <| Zg <| Zm Y <| Ya (n := 1) Y Y <| Za Y <| Z0 <| Zn [5, 6, 0, 1] ?_
    refine nx_againB (e' := [(5, _), (6, _)]) (m := _) (H' := _) (by exact ⟨i + 1, _, _, rfl, ⟨by omega, by rw [words_map bl i _ (words_lo bl i (by omega))]; exact hrq⟩, rfl, rfl⟩)
   case hl_3 =>
    exact each_nil
  case hl_2 =>
   exact each_nil
 ·
  have ei : i = 16 := by omega
  subst ei
  refine at_exit <| Zt <| Zt <| nx_block_exit <| Zx <| Zq <| Zq <| Zg <| Za Y <| Z0 <| Zx <| at_block <| Zb [5, 7, 0] ?_
  refine at_loopB (e0 := [(5, _), (7, _)]) (H0 := _) (n := _) (fun m e H => ∃ (i : Nat) (v : Value) (sv : List Chunk), m = 64 - i ∧ (16 ≤ i ∧ i ≤ 64 ∧ Row 108 v ((words bl i).map u32v) sv) ∧ e = [(5, v), (7, .int .i64 (i : Int))] ∧ H = [sv]) (by exact ⟨16, _, _, rfl, ⟨Nat.le_refl _, by omega, hrv⟩, rfl, rfl⟩) (by repeat (first | exact Pull.nil _ | (apply Pull.cons; (focus (repeat (first | exact One.here _ _ | apply One.there)))))) ?_
  rintro _ _ _ ⟨i, v, sv, rfl, ⟨hi0, hi, hrv⟩, rfl, rfl⟩
  obtain ⟨gw, capw, curw, zw, rfl, rfl, hlew, hcmw, hcsw, htkw, hfrw⟩ := hrv.some (by rw [List.length_map]; (rw [words_len]; omega))
  refine Zq <| Zq <| Zg <| Zm Y <| Zv (p_lss_nat (n := 64) Y Y) <| Z0 <| Zx ?_
  refine at_if Y (fun hi64 => ?_) (fun hi64 => ?_)
  ·
   refine at_skip <| Zx <| Zq <| at_block <| Zq <| at_draw (n := 21) (0 :: 0 :: 2 :: 7 :: 15 :: 31 :: 0 :: 0 :: 128 :: 448 :: 960 :: 2047 :: 4095 :: 0 :: 0 :: 16384 :: 57344 :: 122880 :: 253952 :: 524287 :: 1048575 :: []) 2080 (by kernel_rfl) (by kernel_rfl) rfl ?_
   refine Zi 1 0 rfl (p_move Y) <| Zi 3 1 rfl (p_move Y) ?_
   (refine lin_v (D' := 7) 2 (p_sub_nat (n := 15) Y Y ?_ ?_) ?_; (focus (omega)); (focus (omega)))
   (refine lin_v (D' := 15) 3 (p_indexAddr_nat0 underlying160 sizeOf108 Y Y ?_) ?_; (focus (first | omega | (rw [List.length_map, words_len]; omega) | (rw [List.length_map]; show _ < 8; omega) | decide)))
   refine Zj 31 4 rfl isAgg108 Y (hv := by exact words_at htkw (by omega)) ?_
   refine Zi 95 6 rfl (p_move Y) <| Zi 223 7 rfl (p_move Y) ?_
   (refine lin_v (D' := 479) 8 (p_sub_nat (n := 15) Y Y ?_ ?_) ?_; (focus (omega)); (focus (omega)))
   (refine lin_v (D' := 991) 9 (p_indexAddr_nat0 underlying160 sizeOf108 Y Y ?_) ?_; (focus (first | omega | (rw [List.length_map, words_len]; omega) | (rw [List.length_map]; show _ < 8; omega) | decide)))
   refine Zj 2015 10 rfl isAgg108 Y (hv := by exact words_at htkw (by omega)) ?_
   refine Zi 10207 13 rfl (p_move Y) <| Zi 26591 14 rfl (p_move Y) ?_
   (refine lin_v (D' := 59359) 15 (p_sub_nat (n := 15) Y Y ?_ ?_) ?_; (focus (omega)); (focus (omega)))
   (refine lin_v (D' := 124895) 16 (p_indexAddr_nat0 underlying160 sizeOf108 Y Y ?_) ?_; (focus (first | omega | (rw [List.length_map, words_len]; omega) | (rw [List.length_map]; show _ < 8; omega) | decide)))
   refine Zj 255967 17 rfl isAgg108 Y (hv := by exact words_at htkw (by omega)) ?_
   (refine lin_v (D' := 518111) 18 (p_shr_u32 (n := 3) Y Y ?_) ?_; (focus (omega)))
   refine Zz (l := [5]) ?_
   refine Zy 31 518143 [17, 10, 4] [true, true, false] [(17, (_, _)), (10, (_, _))] rfl Y rfl rfl rfl rfl (Zu [_, _] Y call130 Y rfl (rrot_spec _ 7 (by decide) (by decide))) ?hk_6 (fun _ _ h => h.elim) ?hl_6
   case hk_6 =>
    rintro _ _ ⟨rfl, rfl⟩
    refine ⟨Zk (Zk (keep_nil)), ?_⟩
    refine Zz (l := [11]) ?_
    refine Zy 2047 520191 [17, 10] [true, false] [(17, (_, _))] rfl Y rfl rfl rfl rfl (Zu [_, _] Y call130 Y rfl (rrot_spec _ 18 (by decide) (by decide))) ?hk_7 (fun _ _ h => h.elim) ?hl_7
    case hk_7 =>
     rintro _ _ ⟨rfl, rfl⟩
     refine ⟨Zk (keep_nil), ?_⟩
     refine Zi 524287 12 rfl (p_xor_u32 Y Y) <| Zi 1048575 19 rfl (p_xor_u32 Y Y) <| Zi 2097151 20 rfl (p_assign Y) <| lin_nil ?_
     refine Zn [0, 5, 7, 8] ?_
     refine Zx <| Zq <| at_draw (n := 21) (0 :: 0 :: 2 :: 7 :: 15 :: 31 :: 0 :: 0 :: 128 :: 448 :: 960 :: 2047 :: 4095 :: 0 :: 0 :: 16384 :: 57344 :: 122880 :: 253952 :: 524287 :: 1048575 :: []) 2080 (by kernel_rfl) (by kernel_rfl) rfl ?_
     refine Zi 1 0 rfl (p_move Y) <| Zi 3 1 rfl (p_move Y) ?_
     (refine lin_v (D' := 7) 2 (p_sub_nat (n := 2) Y Y ?_ ?_) ?_; (focus (omega)); (focus (omega)))
     (refine lin_v (D' := 15) 3 (p_indexAddr_nat0 underlying160 sizeOf108 Y Y ?_) ?_; (focus (first | omega | (rw [List.length_map, words_len]; omega) | (rw [List.length_map]; show _ < 8; omega) | decide)))
     refine Zj 31 4 rfl isAgg108 Y (hv := by exact words_at htkw (by omega)) ?_
     refine Zi 95 6 rfl (p_move Y) <| Zi 223 7 rfl (p_move Y) ?_
     (refine lin_v (D' := 479) 8 (p_sub_nat (n := 2) Y Y ?_ ?_) ?_; (focus (omega)); (focus (omega)))
     (refine lin_v (D' := 991) 9 (p_indexAddr_nat0 underlying160 sizeOf108 Y Y ?_) ?_; (focus (first | omega | (rw [List.length_map, words_len]; omega) | (rw [List.length_map]; show _ < 8; omega) | decide)))
     refine Zj 2015 10 rfl isAgg108 Y (hv := by exact words_at htkw (by omega)) ?_
     refine Zi 10207 13 rfl (p_move Y) <| Zi 26591 14 rfl (p_move Y) ?_
     (refine lin_v (D' := 59359) 15 (p_sub_nat (n := 2) Y Y ?_ ?_) ?_; (focus (omega)); (focus (omega)))
     (refine lin_v (D' := 124895) 16 (p_indexAddr_nat0 underlying160 sizeOf108 Y Y ?_) ?_; (focus (first | omega | (rw [List.length_map, words_len]; omega) | (rw [List.length_map]; show _ < 8; omega) | decide)))
     refine Zj 255967 17 rfl isAgg108 Y (hv := by exact words_at htkw (by omega)) ?_
     (refine lin_v (D' := 518111) 18 (p_shr_u32 (n := 10) Y Y ?_) ?_; (focus (omega)))
     refine Zz (l := [5]) ?_
     refine Zy 31 518143 [17, 10, 4] [true, true, false] [(17, (_, _)), (10, (_, _))] rfl Y rfl rfl rfl rfl (Zu [_, _] Y call130 Y rfl (rrot_spec _ 17 (by decide) (by decide))) ?hk_8 (fun _ _ h => h.elim) ?hl_8
     case hk_8 =>
      rintro _ _ ⟨rfl, rfl⟩
      refine ⟨Zk (Zk (keep_nil)), ?_⟩
      refine Zz (l := [11]) ?_
      refine Zy 2047 520191 [17, 10] [true, false] [(17, (_, _))] rfl Y rfl rfl rfl rfl (Zu [_, _] Y call130 Y rfl (rrot_spec _ 19 (by decide) (by decide))) ?hk_9 (fun _ _ h => h.elim) ?hl_9
      case hk_9 =>
       rintro _ _ ⟨rfl, rfl⟩
       refine ⟨Zk (keep_nil), ?_⟩
       refine Zi 524287 12 rfl (p_xor_u32 Y Y) <| Zi 1048575 19 rfl (p_xor_u32 Y Y) <| Zi 2097151 20 rfl (p_assign Y) <| lin_nil ?_
       refine Zn [0, 5, 7, 8, 9] ?_
       refine Zx <| at_draw (n := 19) (0 :: 0 :: 0 :: 4 :: 14 :: 30 :: 0 :: 126 :: 0 :: 0 :: 512 :: 1792 :: 3840 :: 8190 :: 0 :: 32766 :: 65534 :: 131071 :: 262143 :: []) 196608 (by kernel_rfl) (by kernel_rfl) rfl ?_
       refine Zi 1 0 rfl (p_move Y) <| Zi 3 1 rfl (p_move Y) <| Zi 7 2 rfl (p_move Y) ?_
       (refine lin_v (D' := 15) 3 (p_sub_nat (n := 16) Y Y ?_ ?_) ?_; (focus (omega)); (focus (omega)))
       (refine lin_v (D' := 31) 4 (p_indexAddr_nat0 underlying160 sizeOf108 Y Y ?_) ?_; (focus (first | omega | (rw [List.length_map, words_len]; omega) | (rw [List.length_map]; show _ < 8; omega) | decide)))
       refine Zj 63 5 rfl isAgg108 Y (hv := by exact words_at htkw (by omega)) ?_
       refine Zi 127 6 rfl (p_move Y) <| Zi 255 7 rfl (p_add_u32 Y Y) <| Zi 511 8 rfl (p_move Y) <| Zi 1023 9 rfl (p_move Y) ?_
       (refine lin_v (D' := 2047) 10 (p_sub_nat (n := 7) Y Y ?_ ?_) ?_; (focus (omega)); (focus (omega)))
       (refine lin_v (D' := 4095) 11 (p_indexAddr_nat0 underlying160 sizeOf108 Y Y ?_) ?_; (focus (first | omega | (rw [List.length_map, words_len]; omega) | (rw [List.length_map]; show _ < 8; omega) | decide)))
       refine Zj 8191 12 rfl isAgg108 Y (hv := by exact words_at htkw (by omega)) ?_
       refine Zi 16383 13 rfl (p_add_u32 Y Y) <| Zi 32767 14 rfl (p_move Y) <| Zi 65535 15 rfl (p_add_u32 Y Y) <| Zz (l := [16]) ?_
       refine Zy 65534 131071 [12, 5] [false, false] [] rfl Y rfl rfl rfl rfl (w_buildSlice (vs := [_]) (cs := [_]) underlying160 sizeOf108 zeroValue108 Y rfl rfl rfl rfl rfl) ?hk_10 (fun _ _ h => h.elim) ?hl_10
       case hk_10 =>
        rintro _ _ ⟨b3, rfl, rfl⟩
        refine ⟨keep_nil, ?_⟩
        refine Zz (l := [17]) ?_
        refine Zy 131071 262143 [] [] [] rfl Y rfl rfl rfl rfl (w_append (by_ := 4) (news := [_]) underlying160 (rfl : Tryz.prog.info? 108 = some Tryz.t108) rfl rfl rfl rfl Y hrv Y (by repeat (first | exact One.here _ _ | apply One.there)) (by repeat (first | exact Has.here _ | apply Has.there)) (by rfl) rfl (by simp [Value.oneCell']) (by decide) (by (simp only [List.length_map, words_len]; omega)) (by (simp only [List.length_map, words_len]; omega))) ?hk_11 (fun _ _ h => h.elim) ?hl_11
        case hk_11 =>
         rintro _ _ ⟨sq2, hrq2, rfl⟩
         refine ⟨keep_nil, ?_⟩
         obtain ⟨gq2, cq2, rfl⟩ := hrq2.form
         refine Zi 524287 18 rfl (p_assign Y) <| lin_nil ?_
         refine Zn [0, 5, 7] ?_
         refine nx_block_normal <| Zx <| Zg <| Zm Y <| Ya (n := 1) Y Y <| Za Y <| Z0 <| Zn [5, 7, 0] ?_
         refine nx_againB (e' := [(5, _), (7, _)]) (m := _) (H' := _) (by exact ⟨i + 1, _, _, rfl, ⟨by omega, by omega, by rw [words_map bl i _ (words_hi bl i (by omega)), nextW_ref]; exact hrq2⟩, rfl, rfl⟩)
        case hl_11 =>
         exact each_nil
       case hl_10 =>
        exact each_nil
      case hl_9 =>
       exact each_nil
     case hl_8 =>
      exact each_nil
    case hl_7 =>
     exact each_nil
   case hl_6 =>
    exact each_nil
  ·
   have ei : i = 64 := by omega
   subst ei
   have htkW := htkw
   refine at_exit <| Zt <| Zt <| nx_block_exit <| Zx <| Zq <| Zg <| Zc [] Y call131 Y rfl (rconst_spec) ?_
   rintro _ _ ⟨_, ⟨gk, rfl, rfl⟩, rfl⟩
   refine Za Y <| Z0 <| Zx <| Zq <| Zg <| Za Y <| Z0 <| Zx <| Zq <| at_nil ?_
   refine Zg <| Zm Y <| Zm Y ?_
   refine Ze (w_append (by_ := 4) underlying160 (rfl : Tryz.prog.info? 108 = some Tryz.t108) rfl rfl rfl rfl Y (row_nil _) Y (by repeat (first | exact One.here _ _ | apply One.there)) (by repeat (first | exact Has.here _ | apply Has.there)) (by exact (show (curh.toList.drop 0).take (hv.list.map u32v).length = _ by rw [List.drop_zero]; exact hh)) rfl (by simp [Value.oneCell', u32v, V8.list]) (by decide) (by decide) (by decide)) ?_
   rintro _ _ ⟨sv0, hrv0, rfl⟩
   obtain ⟨gv0, cv0, rfl⟩ := hrv0.form
   rw [List.nil_append] at hrv0 ⊢
   refine Za Y <| Z0 <| Zx <| Zq <| Zq <| Zg <| Za Y <| Z0 <| Zx <| at_block <| Zb [11, 12, 0, 5, 10] ?_
   refine at_loopB (e0 := [(11, _), (12, _)]) (H0 := _) (n := _) (fun m e H => ∃ (i : Nat) (v : Value) (sv : List Chunk), m = 64 - i ∧ (i ≤ 64 ∧ Row 108 v ((rounds (sched bl) hv i).list.map u32v) sv) ∧ e = [(11, v), (12, .int .i64 (i : Int))] ∧ H = [sv]) (by exact ⟨0, _, _, rfl, ⟨Nat.zero_le _, hrv0⟩, rfl, rfl⟩) (by repeat (first | exact Pull.nil _ | (apply Pull.cons; (focus (repeat (first | exact One.here _ _ | apply One.there)))))) ?_
   rintro _ _ _ ⟨i, v, sv, rfl, ⟨hi, hrr⟩, rfl, rfl⟩
   obtain ⟨gr, capr, curr, zr, rfl, rfl, hler, hcmr, hcsr, htkr, hfrr⟩ := hrr.some (by rw [List.length_map]; (show 0 < 8; decide))
   refine Zq <| Zq <| Zg <| Zm Y <| Zv (p_lss_nat (n := 64) Y Y) <| Z0 <| Zx ?_
   refine at_if Y (fun hj64 => ?_) (fun hj64 => ?_)
   ·
    refine at_skip <| Zx <| Zq <| at_block <| Zq <| Zg <| Zm Y ?_
    (refine op_v (p_indexAddr_nat0 (j := 0) underlying160 sizeOf108 Y Y ?_) ?_; (focus (first | omega | (rw [List.length_map, words_len]; omega) | (rw [List.length_map]; show _ < 8; omega) | decide)))
    refine Zl isAgg108 Y (hv := by exact v8_at htkr 0 (by decide)) ?_
    refine Za Y <| Z0 <| Zx <| Zq <| Zg <| Zm Y ?_
    (refine op_v (p_indexAddr_nat0 (j := 4) underlying160 sizeOf108 Y Y ?_) ?_; (focus (first | omega | (rw [List.length_map, words_len]; omega) | (rw [List.length_map]; show _ < 8; omega) | decide)))
    refine Zl isAgg108 Y (hv := by exact v8_at htkr 4 (by decide)) ?_
    refine Za Y <| Z0 <| Zx <| Zq <| at_draw (n := 36) (0 :: 1 :: 3 :: 0 :: 8 :: 0 :: 56 :: 120 :: 0 :: 376 :: 1016 :: 2047 :: 0 :: 0 :: 8192 :: 24576 :: 61440 :: 0 :: 131072 :: 0 :: 524288 :: 1572864 :: 4063232 :: 8384512 :: 16777215 :: 0 :: 0 :: 100663296 :: 234881024 :: 536870911 :: 0 :: 0 :: 3221225472 :: 7516192768 :: 17179869183 :: 34359738367 :: []) 592 (by kernel_rfl) (by kernel_rfl) rfl ?_
    refine Zi 1 0 rfl (p_move Y) ?_
    (refine lin_v (D' := 3) 1 (p_indexAddr_nat0 (j := 7) underlying160 sizeOf108 Y Y ?_) ?_; (focus (first | omega | (rw [List.length_map, words_len]; omega) | (rw [List.length_map]; show _ < 8; omega) | decide)))
    refine Zj 7 2 rfl isAgg108 Y (hv := by exact v8_at htkr 7 (by decide)) ?_
    refine Zi 15 3 rfl (p_move Y) <| Zi 47 5 rfl (p_move Y) <| Zi 303 8 rfl (p_move Y) <| Zi 4399 12 rfl (p_move Y) <| Zi 12591 13 rfl (p_move Y) ?_
    (refine lin_v (D' := 28975) 14 (p_indexAddr_nat0 (j := 5) underlying160 sizeOf108 Y Y ?_) ?_; (focus (first | omega | (rw [List.length_map, words_len]; omega) | (rw [List.length_map]; show _ < 8; omega) | decide)))
    refine Zj 61743 15 rfl isAgg108 Y (hv := by exact v8_at htkr 5 (by decide)) ?_
    refine Zi 127279 16 rfl (p_and_u32 Y Y) <| Zi 258351 17 rfl (p_move Y) <| Zi 520495 18 rfl (p_cpl_u32 Y) <| Zi 1044783 19 rfl (p_move Y) ?_
    (refine lin_v (D' := 2093359) 20 (p_indexAddr_nat0 (j := 6) underlying160 sizeOf108 Y Y ?_) ?_; (focus (first | omega | (rw [List.length_map, words_len]; omega) | (rw [List.length_map]; show _ < 8; omega) | decide)))
    refine Zj 4190511 21 rfl isAgg108 Y (hv := by exact v8_at htkr 6 (by decide)) ?_
    refine Zi 8384815 22 rfl (p_and_u32 Y Y) <| Zi 16773423 23 rfl (p_xor_u32 Y Y) <| Zi 50327855 25 rfl (p_move Y) <| Zi 117436719 26 rfl (p_move Y) ?_
    (refine lin_v (D' := 251654447) 27 (p_indexAddr_nat0 underlying160 sizeOf108 Y Y ?_) ?_; (focus (first | omega | (rw [List.length_map, words_len]; omega) | (rw [List.length_map]; show _ < 8; omega) | decide)))
    refine Zj 520089903 28 rfl isAgg108 Y (hv := by exact k_at i (by omega)) ?_
    refine Zi 1593831727 30 rfl (p_move Y) <| Zi 3741315375 31 rfl (p_move Y) ?_
    (refine lin_v (D' := 8036282671) 32 (p_indexAddr_nat0 underlying160 sizeOf108 Y Y ?_) ?_; (focus (first | omega | (rw [List.length_map, words_len]; omega) | (rw [List.length_map]; show _ < 8; omega) | decide)))
    refine Zj 16626217263 33 rfl isAgg108 Y (hv := by exact words_at htkW (by omega)) ?_
    refine Zz (l := [4]) ?_
    refine Zy 8 16626217279 [33, 28, 21, 15, 2] [true, true, true, true, true] [(33, (_, _)), (28, (_, _)), (21, (_, _)), (15, (_, _)), (2, (_, _))] rfl Y rfl rfl rfl rfl (Zu [_, _] Y call130 Y rfl (rrot_spec _ 6 (by decide) (by decide))) ?hk_14 (fun _ _ h => h.elim) ?hl_14
    case hk_14 =>
     rintro _ _ ⟨rfl, rfl⟩
     refine ⟨Zk (Zk (Zk (Zk (Zk (keep_nil))))), ?_⟩
     refine Zz (l := [6]) ?_
     refine Zy 56 16626217343 [33, 28, 21, 15, 2] [true, true, true, true, true] [(33, (_, _)), (28, (_, _)), (21, (_, _)), (15, (_, _)), (2, (_, _))] rfl Y rfl rfl rfl rfl (Zu [_, _] Y call130 Y rfl (rrot_spec _ 11 (by decide) (by decide))) ?hk_15 (fun _ _ h => h.elim) ?hl_15
     case hk_15 =>
      rintro _ _ ⟨rfl, rfl⟩
      refine ⟨Zk (Zk (Zk (Zk (Zk (keep_nil))))), ?_⟩
      refine Zi 16626217471 7 rfl (p_xor_u32 Y Y) <| Zz (l := [9]) ?_
      refine Zy 376 16626217983 [33, 28, 21, 15, 2] [true, true, true, true, true] [(33, (_, _)), (28, (_, _)), (21, (_, _)), (15, (_, _)), (2, (_, _))] rfl Y rfl rfl rfl rfl (Zu [_, _] Y call130 Y rfl (rrot_spec _ 25 (by decide) (by decide))) ?hk_16 (fun _ _ h => h.elim) ?hl_16
      case hk_16 =>
       rintro _ _ ⟨rfl, rfl⟩
       refine ⟨Zk (Zk (Zk (Zk (Zk (keep_nil))))), ?_⟩
       refine Zi 16626219007 10 rfl (p_xor_u32 Y Y) <| Zi 16626221055 11 rfl (p_add_u32 Y Y) <| Zi 16642998271 24 rfl (p_add_u32 Y Y) <| Zi 17179869183 29 rfl (p_add_u32 Y Y) <| Zi 34359738367 34 rfl (p_add_u32 Y Y) <| Zi 68719476735 35 rfl (p_assign Y) <| lin_nil ?_
       refine Zn [0, 5, 10, 11, 12, 13, 14, 15] ?_
       refine Zx <| Zq <| at_draw (n := 29) (0 :: 1 :: 0 :: 7 :: 15 :: 0 :: 47 :: 127 :: 0 :: 0 :: 512 :: 1536 :: 3840 :: 0 :: 0 :: 16384 :: 49152 :: 122880 :: 261888 :: 0 :: 524288 :: 1572864 :: 0 :: 4194304 :: 12582912 :: 33030144 :: 67108608 :: 134217727 :: 268435455 :: []) 74 (by kernel_rfl) (by kernel_rfl) rfl ?_
       refine Zi 1 0 rfl (p_move Y) <| Zi 5 2 rfl (p_move Y) <| Zi 37 5 rfl (p_move Y) <| Zi 293 8 rfl (p_move Y) <| Zi 805 9 rfl (p_move Y) ?_
       (refine lin_v (D' := 1829) 10 (p_indexAddr_nat0 (j := 1) underlying160 sizeOf108 Y Y ?_) ?_; (focus (first | omega | (rw [List.length_map, words_len]; omega) | (rw [List.length_map]; show _ < 8; omega) | decide)))
       refine Zj 3877 11 rfl isAgg108 Y (hv := by exact v8_at htkr 1 (by decide)) ?_
       refine Zi 7973 12 rfl (p_and_u32 Y Y) <| Zi 16165 13 rfl (p_move Y) <| Zi 32549 14 rfl (p_move Y) ?_
       (refine lin_v (D' := 65317) 15 (p_indexAddr_nat0 (j := 2) underlying160 sizeOf108 Y Y ?_) ?_; (focus (first | omega | (rw [List.length_map, words_len]; omega) | (rw [List.length_map]; show _ < 8; omega) | decide)))
       refine Zj 130853 16 rfl isAgg108 Y (hv := by exact v8_at htkr 2 (by decide)) ?_
       refine Zi 261925 17 rfl (p_and_u32 Y Y) <| Zi 524069 18 rfl (p_xor_u32 Y Y) <| Zi 1048357 19 rfl (p_move Y) ?_
       (refine lin_v (D' := 2096933) 20 (p_indexAddr_nat0 (j := 1) underlying160 sizeOf108 Y Y ?_) ?_; (focus (first | omega | (rw [List.length_map, words_len]; omega) | (rw [List.length_map]; show _ < 8; omega) | decide)))
       refine Zj 4194085 21 rfl isAgg108 Y (hv := by exact v8_at htkr 1 (by decide)) ?_
       refine Zi 8388389 22 rfl (p_move Y) ?_
       (refine lin_v (D' := 16776997) 23 (p_indexAddr_nat0 (j := 2) underlying160 sizeOf108 Y Y ?_) ?_; (focus (first | omega | (rw [List.length_map, words_len]; omega) | (rw [List.length_map]; show _ < 8; omega) | decide)))
       refine Zj 33554213 24 rfl isAgg108 Y (hv := by exact v8_at htkr 2 (by decide)) ?_
       refine Zi 67108645 25 rfl (p_and_u32 Y Y) <| Zi 134217509 26 rfl (p_xor_u32 Y Y) <| Zz (l := [1]) ?_
       refine Zy 1 134217511 [24, 21, 16, 11] [true, true, true, true] [(24, (_, _)), (21, (_, _)), (16, (_, _)), (11, (_, _))] rfl Y rfl rfl rfl rfl (Zu [_, _] Y call130 Y rfl (rrot_spec _ 2 (by decide) (by decide))) ?hk_17 (fun _ _ h => h.elim) ?hl_17
       case hk_17 =>
        rintro _ _ ⟨rfl, rfl⟩
        refine ⟨Zk (Zk (Zk (Zk (keep_nil)))), ?_⟩
        refine Zz (l := [3]) ?_
        refine Zy 7 134217519 [24, 21, 16, 11] [true, true, true, true] [(24, (_, _)), (21, (_, _)), (16, (_, _)), (11, (_, _))] rfl Y rfl rfl rfl rfl (Zu [_, _] Y call130 Y rfl (rrot_spec _ 13 (by decide) (by decide))) ?hk_18 (fun _ _ h => h.elim) ?hl_18
        case hk_18 =>
         rintro _ _ ⟨rfl, rfl⟩
         refine ⟨Zk (Zk (Zk (Zk (keep_nil)))), ?_⟩
         refine Zi 134217535 4 rfl (p_xor_u32 Y Y) <| Zz (l := [6]) ?_
         refine Zy 47 134217599 [24, 21, 16, 11] [true, true, true, true] [(24, (_, _)), (21, (_, _)), (16, (_, _)), (11, (_, _))] rfl Y rfl rfl rfl rfl (Zu [_, _] Y call130 Y rfl (rrot_spec _ 22 (by decide) (by decide))) ?hk_19 (fun _ _ h => h.elim) ?hl_19
         case hk_19 =>
          rintro _ _ ⟨rfl, rfl⟩
          refine ⟨Zk (Zk (Zk (Zk (keep_nil)))), ?_⟩
          refine Zi 134217727 7 rfl (p_xor_u32 Y Y) <| Zi 268435455 27 rfl (p_add_u32 Y Y) <| Zi 536870911 28 rfl (p_assign Y) <| lin_nil ?_
          refine Zn [0, 5, 10, 11, 12, 13, 14, 15, 16] ?_
          refine Zx <| at_draw (n := 24) (0 :: 0 :: 3 :: 0 :: 0 :: 16 :: 48 :: 0 :: 128 :: 384 :: 0 :: 1024 :: 3072 :: 0 :: 15360 :: 0 :: 0 :: 65536 :: 196608 :: 0 :: 524288 :: 1572864 :: 4194303 :: 8388607 :: []) 4194304 (by kernel_rfl) (by kernel_rfl) rfl ?_
          refine Zi 1 0 rfl (p_move Y) <| Zi 3 1 rfl (p_move Y) <| Zi 7 2 rfl (p_add_u32 Y Y) <| Zi 15 3 rfl (p_move Y) <| Zi 31 4 rfl (p_move Y) ?_
          (refine lin_v (D' := 63) 5 (p_indexAddr_nat0 (j := 1) underlying160 sizeOf108 Y Y ?_) ?_; (focus (first | omega | (rw [List.length_map, words_len]; omega) | (rw [List.length_map]; show _ < 8; omega) | decide)))
          refine Zj 127 6 rfl isAgg108 Y (hv := by exact v8_at htkr 1 (by decide)) ?_
          refine Zi 255 7 rfl (p_move Y) ?_
          (refine lin_v (D' := 511) 8 (p_indexAddr_nat0 (j := 2) underlying160 sizeOf108 Y Y ?_) ?_; (focus (first | omega | (rw [List.length_map, words_len]; omega) | (rw [List.length_map]; show _ < 8; omega) | decide)))
          refine Zj 1023 9 rfl isAgg108 Y (hv := by exact v8_at htkr 2 (by decide)) ?_
          refine Zi 2047 10 rfl (p_move Y) ?_
          (refine lin_v (D' := 4095) 11 (p_indexAddr_nat0 (j := 3) underlying160 sizeOf108 Y Y ?_) ?_; (focus (first | omega | (rw [List.length_map, words_len]; omega) | (rw [List.length_map]; show _ < 8; omega) | decide)))
          refine Zj 8191 12 rfl isAgg108 Y (hv := by exact v8_at htkr 3 (by decide)) ?_
          refine Zi 16383 13 rfl (p_move Y) <| Zi 32767 14 rfl (p_add_u32 Y Y) <| Zi 65535 15 rfl (p_move Y) <| Zi 131071 16 rfl (p_move Y) ?_
          (refine lin_v (D' := 262143) 17 (p_indexAddr_nat0 (j := 5) underlying160 sizeOf108 Y Y ?_) ?_; (focus (first | omega | (rw [List.length_map, words_len]; omega) | (rw [List.length_map]; show _ < 8; omega) | decide)))
          refine Zj 524287 18 rfl isAgg108 Y (hv := by exact v8_at htkr 5 (by decide)) ?_
          refine Zi 1048575 19 rfl (p_move Y) ?_
          (refine lin_v (D' := 2097151) 20 (p_indexAddr_nat0 (j := 6) underlying160 sizeOf108 Y Y ?_) ?_; (focus (first | omega | (rw [List.length_map, words_len]; omega) | (rw [List.length_map]; show _ < 8; omega) | decide)))
          refine Zj 4194303 21 rfl isAgg108 Y (hv := by exact v8_at htkr 6 (by decide)) ?_
          refine Zz (l := [22]) ?_
          refine Zy 4194303 8388607 [21, 18, 12, 9, 6] [false, false, false, false, false] [] rfl Y rfl rfl rfl rfl (w_buildSlice (vs := [_, _, _, _, _, _, _, _]) (cs := [_, _, _, _, _, _, _, _]) underlying160 sizeOf108 zeroValue108 Y rfl rfl rfl rfl rfl) ?hk_20 (fun _ _ h => h.elim) ?hl_20
          case hk_20 =>
           rintro _ _ ⟨b6, rfl, rfl⟩
           refine ⟨keep_nil, ?_⟩
           refine Zi 16777215 23 rfl (p_assign Y) <| lin_nil ?_
           refine Zn [0, 5, 10, 11, 12] ?_
           refine nx_block_normal <| Zx <| Zg <| Zm Y <| Ya (n := 1) Y Y <| Za Y <| Z0 <| Zn [11, 12, 0, 5, 10] ?_
           refine nx_againB (e' := [(11, _), (12, _)]) (m := _) (H' := _) (by exact ⟨i + 1, _, _, rfl, ⟨by omega, by rw [round_vals bl hv i]; exact row_new _ _ _ 8 rfl (by decide)⟩, rfl, rfl⟩)
          case hl_20 =>
           exact each_nil
         case hl_19 =>
          exact each_nil
        case hl_18 =>
         exact each_nil
       case hl_17 =>
        exact each_nil
      case hl_16 =>
       exact each_nil
     case hl_15 =>
      exact each_nil
    case hl_14 =>
     exact each_nil
   ·
    have ei : i = 64 := by omega
    subst ei
    have htkx := htkr
    refine at_exit <| Zt <| Zt <| nx_block_exit <| Zx <| Zq <| Zg <| Za Y <| Z0 <| Zx <| Zq <| Zq <| Zg <| Za Y <| Z0 <| Zx <| at_block <| at_nil ?_
    refine Zb [17, 18, 0, 11] ?_
    refine at_loopB (e0 := [(17, _), (18, _)]) (H0 := _) (n := _) (fun m e H => ∃ (i : Nat) (v : Value) (sv : List Chunk), m = 8 - i ∧ (i ≤ 8 ∧ Row 108 v (((blockS hv bl).list.take i).map u32v) sv) ∧ e = [(17, v), (18, .int .i64 (i : Int))] ∧ H = [sv]) (by exact ⟨0, _, [], rfl, ⟨Nat.zero_le _, row_nil _⟩, rfl, rfl⟩) (by repeat (first | exact Pull.nil _ | (apply Pull.cons; (focus (repeat (first | exact One.here _ _ | apply One.there)))))) ?_
    rintro _ _ _ ⟨i, v, sv, rfl, ⟨hi, hro⟩, rfl, rfl⟩
    obtain ⟨gv, cv, rfl⟩ := hro.form
    have htl : ((blockS hv bl).list.take i).length ≤ i := List.length_take_le ..
    refine Zq <| Zq <| Zg <| Zm Y <| Zv (p_lss_nat (n := 8) Y Y) <| Z0 <| Zx ?_
    refine at_if Y (fun hi8 => ?_) (fun hi8 => ?_)
    ·
     refine at_skip <| Zx <| Zq <| at_block <| at_draw (n := 13) (0 :: 0 :: 0 :: 6 :: 14 :: 0 :: 0 :: 96 :: 224 :: 510 :: 1022 :: 2047 :: 4095 :: []) 3072 (by kernel_rfl) (by kernel_rfl) rfl ?_
     refine Zi 1 0 rfl (p_move Y) <| Zi 3 1 rfl (p_move Y) <| Zi 7 2 rfl (p_move Y) ?_
     (refine lin_v (D' := 15) 3 (p_indexAddr_nat0 underlying160 sizeOf108 Y Y ?_) ?_; (focus (first | omega | (rw [List.length_map, words_len]; omega) | (rw [List.length_map]; show _ < 8; omega) | decide)))
     refine Zj 31 4 rfl isAgg108 Y (hv := by exact v8_at hh i (by omega)) ?_
     refine Zi 63 5 rfl (p_move Y) <| Zi 127 6 rfl (p_move Y) ?_
     (refine lin_v (D' := 255) 7 (p_indexAddr_nat0 underlying160 sizeOf108 Y Y ?_) ?_; (focus (first | omega | (rw [List.length_map, words_len]; omega) | (rw [List.length_map]; show _ < 8; omega) | decide)))
     refine Zj 511 8 rfl isAgg108 Y (hv := by exact v8_at htkx i (by omega)) ?_
     refine Zi 1023 9 rfl (p_add_u32 Y Y) <| Zz (l := [10]) ?_
     refine Zy 1022 2047 [8, 4] [false, false] [] rfl Y rfl rfl rfl rfl (w_buildSlice (vs := [_]) (cs := [_]) underlying160 sizeOf108 zeroValue108 Y rfl rfl rfl rfl rfl) ?hk_23 (fun _ _ h => h.elim) ?hl_23
     case hk_23 =>
      rintro _ _ ⟨b7, rfl, rfl⟩
      refine ⟨keep_nil, ?_⟩
      refine Zz (l := [11]) ?_
      refine Zy 2047 4095 [] [] [] rfl Y rfl rfl rfl rfl (w_append (by_ := 4) (news := [_]) underlying160 (rfl : Tryz.prog.info? 108 = some Tryz.t108) rfl rfl rfl rfl Y hro Y (by repeat (first | exact One.here _ _ | apply One.there)) (by repeat (first | exact Has.here _ | apply Has.there)) (by rfl) rfl (by simp [Value.oneCell']) (by decide) (by (simp only [List.length_map]; omega)) (by (simp only [List.length_map]; omega))) ?hk_24 (fun _ _ h => h.elim) ?hl_24
      case hk_24 =>
       rintro _ _ ⟨sz, hrz, rfl⟩
       refine ⟨keep_nil, ?_⟩
       obtain ⟨gz, cz, rfl⟩ := hrz.form
       refine Zi 8191 12 rfl (p_assign Y) <| lin_nil ?_
       refine Zn [0, 11, 17, 18] ?_
       refine nx_block_normal <| Zx <| Zg <| Zm Y <| Ya (n := 1) Y Y <| Za Y <| Z0 <| Zn [17, 18, 0, 11] ?_
       refine nx_againB (e' := [(17, _), (18, _)]) (m := _) (H' := _) (by exact ⟨i + 1, _, _, rfl, ⟨by omega, by rw [take_step u32v (blockS hv bl).list i 0 (by show i < 8; omega), blockS_get hv bl i (by omega)]; exact hrz⟩, rfl, rfl⟩)
      case hl_24 =>
       exact each_nil
     case hl_23 =>
      exact each_nil
    ·
     have ei : i = 8 := by omega
     subst ei
     refine at_exit <| Zt <| Zt <| nx_block_exit <| Zx <| Zq <| Zg <| Zm Y <| Za Y <| Z0 <| Zx <| at_ret ?_
     refine nx_end1 rfl results109 Y (by exact ⟨_, hro, rfl⟩)

end Go.Proofs.YtjeepldonhgohaaGreatDoor
