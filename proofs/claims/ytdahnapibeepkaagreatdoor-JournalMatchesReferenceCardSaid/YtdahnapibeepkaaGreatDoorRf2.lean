/- The reference of chapter 2. The reference of chapter 2: block. -/
import Derived.Test.YtdahnapibeepkaaGreatDoorDg5
import Derived.Test.YtdahnapibeepkaaGreatDoorEx11
import Derived.Test.YtdahnapibeepkaaGreatDoorJm4
import Derived.Test.YtdahnapibeepkaaGreatDoorLw3
import Derived.Test.YtdahnapibeepkaaGreatDoorAp4
namespace Go.Proofs.YtdahnapibeepkaaGreatDoor
open Go Go.RowKit Gw
set_option linter.unusedVariables false
set_option maxRecDepth 100000
attribute [local irreducible] Gw.At Gw.Nx Gw.Ops
theorem rot_ref (x : UInt32) (n m : Nat) (h0 : 0 < n) (h1 : n < 32) (hm : n + m = 32) : (x >>> UInt32.ofNat n) ||| (x <<< UInt32.ofNat m) = rotr x (UInt32.ofNat n) := by
  rw [UInt32.or_comm]; exact rot_lemma x n m h0 h1 hm
theorem mix_two (x a b : UInt32) : mixL x [a, b] = rotr x a ^^^ rotr x b := by simp [mixL]
theorem mix_three (x a b c : UInt32) : mixL x [a, b, c] = rotr x a ^^^ rotr x b ^^^ rotr x c := by simp [mixL]
theorem words_map (b : List UInt8) (k : Nat) (x : UInt32) (h : words b (k + 1) = words b k ++ [x]) : (words b (k + 1)).map u32v = (words b k).map u32v ++ [u32v x] := by rw [h, List.map_append]; rfl
theorem row_at {e : TypeId} {v : Value} {l : List UInt32} {g cap : Nat} {cur : Array Value} (htk : cur.toList.take (l.map u32v).length = l.map u32v) (i : Nat) (h : i < l.length) : cur[i]? = some (u32v (l.getD i 0)) := by
  have h1 : (cur.toList.take (l.map u32v).length)[i]? = (l.map u32v)[i]? := by rw [htk]
  rw [List.length_map, List.getElem?_take, if_pos h, Array.getElem?_toList, List.getElem?_map, List.getElem?_eq_getElem h] at h1
  rw [h1]
  simp [List.getD_eq_getElem?_getD, List.getElem?_eq_getElem h]

theorem rrot_spec (x : UInt32) (n : Nat) (h0 : 0 < n) (h1 : n < 32) : DoesR Tryz.prog 154 #[.int .u32 (x.toNat : Int), .int .i64 (n : Int)] [] (.int .u32 ((rotr x (UInt32.ofNat n)).toNat : Int)) := by
 refine spec_enter Tryz.func154 rfl Tryz.ntmps154 rfl ?_
 intro u R
 refine at_slots (env' := [(0, _), (1, _)]) [0, 1] rfl (fun _=>rfl) ?_
 refine at_seq ?_
 refine at_region ?_
 refine op_v (p_assign (fun _=>rfl)) ?_
 refine ops_nil ?_
 refine nx_next ?_
 refine at_seq ?_
 refine at_draw (n := 9) (0 :: 0 :: 3 :: 0 :: 0 :: 16 :: 56 :: 127 :: 255 :: []) 0 (by kernel_rfl) (by kernel_rfl) rfl ?_
 refine lin_v (D' := 1) 0 (p_move (fun _=>rfl)) ?_
 refine lin_v (D' := 3) 1 (p_move (fun _=>rfl)) ?_
 (refine lin_v (D' := 7) 2 (p_shr_u32 (fun _=>rfl) (fun _=>rfl) ?_) ?_; (focus (omega)))
 refine lin_v (D' := 15) 3 (p_move (fun _=>rfl)) ?_
 refine lin_v (D' := 31) 4 (p_move (fun _=>rfl)) ?_
 first | (refine lin_v (D' := 63) 5 (p_sub_nat (m := 32) (fun _=>rfl) (fun _=>rfl) ?_ ?_) ?_; (focus (omega)); (focus (omega))) | (refine lin_v (D' := 63) 5 (p_sub (fun _=>rfl) (fun _=>rfl) (IntWalk.i64_in _ ?_)) ?_; (focus (omega)))
 (refine lin_v (D' := 127) 6 (p_shl_u32 (fun _=>rfl) (fun _=>rfl) ?_) ?_; (focus (omega)))
 refine lin_v (D' := 255) 7 (p_or_u32 (fun _=>rfl) (fun _=>rfl)) ?_
 refine lin_v (D' := 511) 8 (p_assign (fun _=>rfl)) ?_
 refine lin_nil ?_
 refine nx_next ?_
 refine at_ret ?_
 refine nx_end1 (H' := _) rfl Tryz.results154 (fun _=>rfl) (by exact ⟨by rw [rot_ref x n (32 - n) h0 h1 (by omega)], rfl⟩)

theorem rconst_spec : Does Tryz.prog 155 #[] [] (fun r H' => ∃ g, r = .slice (some ⟨g, 0, none⟩) 64 64 ∧ H' = [[(g, .cells (kTab.map u32v).toArray 198 (0, 0))]]) := by
 refine spec_enter Tryz.func155 rfl Tryz.ntmps155 rfl ?_
 intro u R
 refine at_slots (env' := []) [] rfl (fun _=>rfl) ?_
 refine at_seq ?_
 refine at_region ?_
 refine op_v (p_assign (fun _=>rfl)) ?_
 refine ops_nil ?_
 refine nx_next ?_
 refine at_seq ?_
 refine at_region ?_
 refine op_e (w_buildSlice (vs := [_, _, _, _, _, _, _, _, _, _, _, _, _, _, _, _, _, _, _, _, _, _, _, _, _, _, _, _, _, _, _, _, _, _, _, _, _, _, _, _, _, _, _, _, _, _, _, _, _, _, _, _, _, _, _, _, _, _, _, _, _, _, _, _]) (cs := [_, _, _, _, _, _, _, _, _, _, _, _, _, _, _, _, _, _, _, _, _, _, _, _, _, _, _, _, _, _, _, _, _, _, _, _, _, _, _, _, _, _, _, _, _, _, _, _, _, _, _, _, _, _, _, _, _, _, _, _, _, _, _, _]) Tryz.underlying212 Tryz.sizeOf198 Tryz.zeroValue198 (fun _=>rfl) rfl rfl rfl rfl rfl) (fun _=>rfl) rfl rfl ?_
 rintro _ _ ⟨g, rfl, rfl⟩
 refine op_v (p_assign (fun _=>rfl)) ?_
 refine ops_nil ?_
 refine nx_next ?_
 refine at_ret ?_
 refine nx_end1 (H' := _) rfl Tryz.results155 (fun _=>rfl) (by exact ⟨g, rfl, rfl⟩)

theorem rext_spec (l : List UInt8) (hs : l.length ≤ 1099511627776) : Does Tryz.prog 135 #[.string (str l)] [] (fun r H' => ∃ sv, Row 5 r ((padded l).map u8v) sv ∧ H' = [sv]) := by
 have hml : maxLen = 9223372036854775807 := rfl
 have hn := str_size l
 have hz : zpad l.length < 64 := by unfold zpad; omega
 refine spec_enter Tryz.func135 rfl Tryz.ntmps135 rfl ?_
 intro u R
 refine at_slots (env' := [(0, _)]) [0] rfl (fun _=>rfl) ?_
 refine at_seq ?_
 refine at_region ?_
 refine op_v (p_assign (fun _=>rfl)) ?_
 refine ops_nil ?_
 refine nx_next ?_
 refine at_seq ?_
 refine at_region ?_
 refine op_v (p_assign (fun _=>rfl)) ?_
 refine ops_nil ?_
 refine nx_next ?_
 refine at_seq ?_
 refine at_seq ?_
 refine at_region ?_
 refine op_v (p_assign (fun _=>rfl)) ?_
 refine ops_nil ?_
 refine nx_next ?_
 refine at_block ?_
 refine at_nil ?_
 refine at_slots (env' := [(3, _), (4, _), (0, _)]) [3, 4, 0] rfl (fun _=>rfl) ?_
 refine at_loopB (e0 := [(3, _), (4, _)]) (H0 := _) (n := _) (fun m e H => ∃ (i : Nat) (v : Value) (sv : List Chunk), m = l.length - i ∧ (i ≤ l.length ∧ Row 5 v ((l.take i).map u8v) sv) ∧ e = [(3, v), (4, .int .i64 (i : Int))] ∧ H = [sv]) (by exact ⟨0, _, [], rfl, ⟨Nat.zero_le _, row_nil _⟩, rfl, rfl⟩) (by repeat (first | exact Pull.nil _ | (apply Pull.cons; (focus (repeat (first | exact One.here _ _ | apply One.there)))))) ?_
 rintro _ _ _ ⟨i, v, sv, rfl, ⟨hi, hrv⟩, rfl, rfl⟩
 obtain ⟨gv, cv, rfl⟩ := hrv.form
 have htl : (l.take i).length ≤ i := List.length_take_le ..
 refine at_seq ?_
 refine at_seq ?_
 refine at_region ?_
 refine op_v (p_move (fun _=>rfl)) ?_
 refine op_v (p_move (fun _=>rfl)) ?_
 refine op_v (p_len_str Tryz.underlying9 (fun _=>rfl)) ?_
 first | refine op_v (p_lss_nat (fun _=>rfl) (fun _=>rfl)) ?_ | refine op_v (p_lss (fun _=>rfl) (fun _=>rfl)) ?_
 refine ops_nil ?_
 refine nx_next ?_
 first | refine at_if (fun _=>rfl) (fun hlt => ?_) (fun hlt => ?_) | refine at_if_bool (fun _=>rfl) (fun hlt => ?_) (fun hlt => ?_)
 ·
  refine at_skip ?_
  refine nx_next ?_
  refine at_seq ?_
  refine at_block ?_
  have hby : byteAt (str l) i = l.getD i 0 := by simp [byteAt, str]
  refine at_region ?_
  refine op_v (p_move (fun _=>rfl)) ?_
  refine op_v (p_move (fun _=>rfl)) ?_
  refine op_v (p_move (fun _=>rfl)) ?_
  (refine op_v (p_index_str Tryz.underlying9 (fun _=>rfl) (fun _=>rfl) (byteAt_get _ _ ?_)) ?_; (focus (omega)))
  refine op_e (w_buildSlice (vs := [_]) (cs := [_]) Tryz.underlying39 Tryz.sizeOf5 Tryz.zeroValue5 (fun _=>rfl) rfl rfl rfl rfl rfl) (fun _=>rfl) rfl rfl ?_
  rintro _ _ ⟨b1, rfl, rfl⟩
  refine op_e (w_append (by_ := 1) (news := [_]) Tryz.underlying39 (rfl : Tryz.prog.info? 5 = some Tryz.t5) rfl rfl rfl rfl (fun _=>rfl) hrv (fun _=>rfl) (by repeat (first | exact One.here _ _ | apply One.there)) (by repeat (first | exact Has.here _ | apply Has.there)) (by rfl) rfl (by simp [Value.oneCell']) (by decide) (by (simp only [List.length_map, hn]; omega)) (by (simp only [List.length_map, hn]; omega))) (fun _=>rfl) rfl rfl ?_
  rintro _ _ ⟨sq, hrq, rfl⟩
  obtain ⟨gq, cq, rfl⟩ := hrq.form
  refine op_v (p_assign (fun _=>rfl)) ?_
  refine ops_nil ?_
  refine nx_block_normal ?_
  refine nx_next ?_
  refine at_region ?_
  refine op_v (p_move (fun _=>rfl)) ?_
  first | (refine op_v (p_add_nat (n := 1) (fun _=>rfl) (fun _=>rfl) ?_) ?_; (focus (omega))) | (refine op_v (p_add (fun _=>rfl) (fun _=>rfl) (IntWalk.i64_in _ ?_)) ?_; (focus (omega)))
  refine op_v (p_assign (fun _=>rfl)) ?_
  refine ops_nil ?_
  refine nx_slots (env' := [(3, _), (4, _), (0, _)]) [3, 4, 0] rfl (fun _=>rfl) ?_
  refine nx_againB (e' := [(3, _), (4, _)]) (m := _) (H' := _) (by exact ⟨i + 1, _, _, rfl, ⟨by omega, by rw [take_step u8v l i 0 (by omega), ← hby]; exact hrq⟩, rfl, rfl⟩)
 ·
  have ei : l.take i = l := List.take_of_length_le (by omega)
  rw [ei] at hrv ⊢
  refine at_exit ?_
  refine nx_thru (by intro h; cases h) ?_
  refine nx_thru (by intro h; cases h) ?_
  refine nx_block_exit ?_
  refine nx_next ?_
  refine at_seq ?_
  refine at_region ?_
  refine op_v (p_move (fun _=>rfl)) ?_
  refine op_e (w_buildSlice (vs := [_]) (cs := [_]) Tryz.underlying39 Tryz.sizeOf5 Tryz.zeroValue5 (fun _=>rfl) rfl rfl rfl rfl rfl) (fun _=>rfl) rfl rfl ?_
  rintro _ _ ⟨b3, rfl, rfl⟩
  refine op_e (w_append (by_ := 1) (news := [_]) Tryz.underlying39 (rfl : Tryz.prog.info? 5 = some Tryz.t5) rfl rfl rfl rfl (fun _=>rfl) hrv (fun _=>rfl) (by repeat (first | exact One.here _ _ | apply One.there)) (by repeat (first | exact Has.here _ | apply Has.there)) (by rfl) rfl (by simp [Value.oneCell']) (by decide) (by (simp only [List.length_map, hn]; omega)) (by (simp only [List.length_map, hn]; omega))) (fun _=>rfl) rfl rfl ?_
  rintro _ _ ⟨sw, hrw, rfl⟩
  obtain ⟨gw, cw, rfl⟩ := hrw.form
  refine op_v (p_assign (fun _=>rfl)) ?_
  refine ops_nil ?_
  refine nx_next ?_
  refine at_seq ?_
  refine at_block ?_
  have hr0 : (padZ l 0).map u8v = List.map u8v l ++ [Value.int IntKind.u8 128] := by simp [padZ, u8v]
  refine at_slots (env' := [(3, _), (0, _)]) [3, 0] rfl (fun _=>rfl) ?_
  refine at_loopB (e0 := [(3, _)]) (H0 := _) (n := _) (fun m e H => ∃ (k : Nat) (v : Value) (sv : List Chunk), m = zpad l.length - k ∧ (k ≤ zpad l.length ∧ Row 5 v ((padZ l k).map u8v) sv) ∧ e = [(3, v)] ∧ H = [sv]) (by exact ⟨0, _, _, rfl, ⟨Nat.zero_le _, by rw [hr0]; exact hrw⟩, rfl, rfl⟩) (by repeat (first | exact Pull.nil _ | (apply Pull.cons; (focus (repeat (first | exact One.here _ _ | apply One.there)))))) ?_
  rintro _ _ _ ⟨k, v, sv, rfl, ⟨hk, hrv⟩, rfl, rfl⟩
  obtain ⟨gv, cv, rfl⟩ := hrv.form
  refine at_seq ?_
  refine at_seq ?_
  refine at_region ?_
  refine op_v (p_move (fun _=>rfl)) ?_
  refine op_v (p_len_slice Tryz.underlying39 (fun _=>rfl)) ?_
  first | (refine op_v (p_rem_nat (n := 64) (fun _=>rfl) (fun _=>rfl) ?_) ?_; (focus (omega))) | (refine op_v (p_rem (fun _=>rfl) (fun _=>rfl) ?_ rfl) ?_; (focus (omega)))
  first | refine op_v (p_neq_nat (n := 56) (fun _=>rfl) (fun _=>rfl)) ?_ | refine op_v (p_neq (fun _=>rfl) (fun _=>rfl)) ?_
  refine ops_nil ?_
  refine nx_next ?_
  first | refine at_if (fun _=>rfl) (fun hlen => ?_) (fun hlen => ?_) | refine at_if_bool (fun _=>rfl) (fun hlen => ?_) (fun hlen => ?_)
  ·
   rw [List.length_map, padZ_len] at hlen
   have hk2 := zpad_lt _ _ hk hlen
   refine at_skip ?_
   refine nx_next ?_
   refine at_block ?_
   refine at_region ?_
   refine op_v (p_move (fun _=>rfl)) ?_
   refine op_e (w_buildSlice (vs := [_]) (cs := [_]) Tryz.underlying39 Tryz.sizeOf5 Tryz.zeroValue5 (fun _=>rfl) rfl rfl rfl rfl rfl) (fun _=>rfl) rfl rfl ?_
   rintro _ _ ⟨b5, rfl, rfl⟩
   refine op_e (w_append (by_ := 1) (news := [_]) Tryz.underlying39 (rfl : Tryz.prog.info? 5 = some Tryz.t5) rfl rfl rfl rfl (fun _=>rfl) hrv (fun _=>rfl) (by repeat (first | exact One.here _ _ | apply One.there)) (by repeat (first | exact Has.here _ | apply Has.there)) (by rfl) rfl (by simp [Value.oneCell']) (by decide) (by (simp only [List.length_map, padZ_len]; omega)) (by (simp only [List.length_map, padZ_len]; omega))) (fun _=>rfl) rfl rfl ?_
   rintro _ _ ⟨sc, hrc, rfl⟩
   obtain ⟨gc, cc, rfl⟩ := hrc.form
   refine op_v (p_assign (fun _=>rfl)) ?_
   refine ops_nil ?_
   refine nx_block_normal ?_
   refine nx_slots (env' := [(3, _), (0, _)]) [3, 0] rfl (fun _=>rfl) ?_
   refine nx_againB (e' := [(3, _)]) (m := _) (H' := _) (by exact ⟨k + 1, _, _, rfl, ⟨hk2, by rw [← padZ_step]; exact hrc⟩, rfl, rfl⟩)
  ·
   rw [List.length_map, padZ_len] at hlen
   have ek := zpad_eq _ _ hk (by omega)
   subst ek
   refine at_exit ?_
   refine nx_thru (by intro h; cases h) ?_
   refine nx_thru (by intro h; cases h) ?_
   refine nx_block_exit ?_
   refine nx_next ?_
   refine at_seq ?_
   refine at_seq ?_
   refine at_region ?_
   refine op_v (p_assign (fun _=>rfl)) ?_
   refine ops_nil ?_
   refine nx_next ?_
   refine at_block ?_
   refine at_slots (env' := [(3, _), (5, _), (0, _)]) [3, 5, 0] rfl (fun _=>rfl) ?_
   refine at_loopB (e0 := [(3, _), (5, _)]) (H0 := _) (n := _) (fun m e H => ∃ (j : Nat) (i : Int) (v : Value) (sv : List Chunk), m = 8 - j ∧ (j ≤ 8 ∧ i = 7 - (j : Int) ∧ Row 5 v ((padL l j).map u8v) sv) ∧ e = [(3, v), (5, .int .i64 i)] ∧ H = [sv]) (by exact ⟨0, _, _, _, rfl, ⟨Nat.zero_le _, rfl, by rw [padL_zero]; exact hrv⟩, rfl, rfl⟩) (by repeat (first | exact Pull.nil _ | (apply Pull.cons; (focus (repeat (first | exact One.here _ _ | apply One.there)))))) ?_
   rintro _ _ _ ⟨j, i, v, sv, rfl, ⟨hj, hi, hrv⟩, rfl, rfl⟩
   obtain ⟨gv, cv, rfl⟩ := hrv.form
   refine at_seq ?_
   refine at_seq ?_
   refine at_region ?_
   refine op_v (p_move (fun _=>rfl)) ?_
   first | refine op_v (p_geq_nat (n := 0) (fun _=>rfl) (fun _=>rfl)) ?_ | refine op_v (p_geq (fun _=>rfl) (fun _=>rfl)) ?_
   refine ops_nil ?_
   refine nx_next ?_
   first | refine at_if (fun _=>rfl) (fun hi0 => ?_) (fun hi0 => ?_) | refine at_if_bool (fun _=>rfl) (fun hi0 => ?_) (fun hi0 => ?_)
   ·
    obtain ⟨q, rfl⟩ := Int.eq_ofNat_of_zero_le hi0
    refine at_skip ?_
    refine nx_next ?_
    refine at_seq ?_
    refine at_block ?_
    refine at_region ?_
    refine op_v (p_move (fun _=>rfl)) ?_
    refine op_v (p_move (fun _=>rfl)) ?_
    refine op_v (p_len_str Tryz.underlying9 (fun _=>rfl)) ?_
    first | (refine op_v (p_mul_nat (m := 8) (fun _=>rfl) (fun _=>rfl) ?_) ?_; (focus (omega))) | (refine op_v (p_mul (fun _=>rfl) (fun _=>rfl) (IntWalk.i64_in _ ?_)) ?_; (focus (omega)))
    refine op_v (p_move (fun _=>rfl)) ?_
    first | (refine op_v (p_mul_nat (m := 8) (fun _=>rfl) (fun _=>rfl) ?_) ?_; (focus (omega))) | (refine op_v (p_mul (fun _=>rfl) (fun _=>rfl) (IntWalk.i64_in _ ?_)) ?_; (focus (omega)))
    first | (refine op_v (p_shr_nat (fun _=>rfl) (fun _=>rfl) ?_) ?_; (focus (first | decide | (simp [IntKind.bits]; done) | (simp [IntKind.bits]; omega)))) | (refine op_v (p_shr (fun _=>rfl) (fun _=>rfl) ?_ ?_ rfl) ?_; (focus (first | decide | omega | (simp [IntKind.bits]; done) | (simp [IntKind.bits]; omega))); (focus (first | decide | omega | (simp [IntKind.bits]; done) | (simp [IntKind.bits]; omega))))
    refine op_w (p_conv_int Tryz.underlying3 Tryz.underlying5 (fun _=>rfl) (lenByte _)) rfl rfl ?_
    refine op_e (w_buildSlice (vs := [_]) (cs := [_]) Tryz.underlying39 Tryz.sizeOf5 Tryz.zeroValue5 (fun _=>rfl) rfl rfl rfl rfl rfl) (fun _=>rfl) rfl rfl ?_
    rintro _ _ ⟨b7, rfl, rfl⟩
    refine op_e (w_append (by_ := 1) (news := [_]) Tryz.underlying39 (rfl : Tryz.prog.info? 5 = some Tryz.t5) rfl rfl rfl rfl (fun _=>rfl) hrv (fun _=>rfl) (by repeat (first | exact One.here _ _ | apply One.there)) (by repeat (first | exact Has.here _ | apply Has.there)) (by rfl) rfl (by simp [Value.oneCell']) (by decide) (by (simp only [List.length_map, padL_len l j hj]; omega)) (by (simp only [List.length_map, padL_len l j hj]; omega))) (fun _=>rfl) rfl rfl ?_
    rintro _ _ ⟨sd, hrd, rfl⟩
    obtain ⟨gd, cd, rfl⟩ := hrd.form
    refine op_v (p_assign (fun _=>rfl)) ?_
    refine ops_nil ?_
    refine nx_slots (env' := [(0, _), (3, _), (5, _)]) [0, 3, 5] rfl (fun _=>rfl) ?_
    refine nx_block_normal ?_
    refine nx_next ?_
    refine at_region ?_
    refine op_v (p_move (fun _=>rfl)) ?_
    first | (refine op_v (p_sub_nat (n := 1) (fun _=>rfl) (fun _=>rfl) ?_ ?_) ?_; (focus (omega)); (focus (omega))) | (refine op_v (p_sub (fun _=>rfl) (fun _=>rfl) (IntWalk.i64_in _ ?_)) ?_; (focus (omega)))
    refine op_v (p_assign (fun _=>rfl)) ?_
    refine ops_nil ?_
    refine nx_slots (env' := [(3, _), (5, _), (0, _)]) [3, 5, 0] rfl (fun _=>rfl) ?_
    refine nx_againB (e' := [(3, _), (5, _)]) (m := _) (H' := _) (by exact ⟨j + 1, _, _, _, rfl, ⟨by omega, by omega, by rw [← padL_step l j q (by omega)]; exact hrd⟩, rfl, rfl⟩)
   ·
    have ej : j = 8 := by omega
    subst ej
    rw [padL_full] at hrv ⊢
    refine at_exit ?_
    refine nx_thru (by intro h; cases h) ?_
    refine nx_thru (by intro h; cases h) ?_
    refine nx_block_exit ?_
    refine nx_next ?_
    refine at_seq ?_
    refine at_region ?_
    refine op_v (p_move (fun _=>rfl)) ?_
    refine op_v (p_assign (fun _=>rfl)) ?_
    refine ops_nil ?_
    refine nx_next ?_
    refine at_ret ?_
    refine nx_end1 (H' := _) rfl Tryz.results135 (fun _=>rfl) (by exact ⟨_, hrv, rfl⟩)

theorem words_at {b : List UInt8} {k i : Nat} {cur : Array Value} (htk : cur.toList.take ((words b k).map u32v).length = (words b k).map u32v) (h : i < k) : cur[i]? = some (.int .u32 (((words b k).getD i 0).toNat : Int)) :=
  row_at (e := 0) (v := .nilFunc) (g := 0) (cap := 0) htk i (by rw [words_len]; exact h)
theorem v8_at {v : V8} {cur : Array Value} (htk : cur.toList.take (v.list.map u32v).length = v.list.map u32v) (i : Nat) (h : i < 8) : cur[i]? = some (.int .u32 ((v.list.getD i 0).toNat : Int)) :=
  row_at (e := 0) (v := .nilFunc) (g := 0) (cap := 0) htk i h
theorem nextW_ref (w : List UInt32) (i : Nat) : nextW w i = w.getD (i - 16) 0 + (rotr (w.getD (i - 15) 0) (UInt32.ofNat 7) ^^^ rotr (w.getD (i - 15) 0) (UInt32.ofNat 18) ^^^ w.getD (i - 15) 0 >>> UInt32.ofNat 3) + w.getD (i - 7) 0 + (rotr (w.getD (i - 2) 0) (UInt32.ofNat 17) ^^^ rotr (w.getD (i - 2) 0) (UInt32.ofNat 19) ^^^ w.getD (i - 2) 0 >>> UInt32.ofNat 10) := by
  unfold nextW
  rw [mix_two, mix_two]; rfl
theorem add8_get (x y : V8) (i : Nat) (h : i < 8) : (add8 x y).list.getD i 0 = x.list.getD i 0 + y.list.getD i 0 := by
  rcases (by omega : i = 0 ∨ i = 1 ∨ i = 2 ∨ i = 3 ∨ i = 4 ∨ i = 5 ∨ i = 6 ∨ i = 7) with rfl | rfl | rfl | rfl | rfl | rfl | rfl | rfl <;> rfl
theorem round_vals (b : List UInt8) (hv : V8) (i : Nat) : (rounds (sched b) hv (i + 1)).list.map u32v =
    [.int .u32 (((rounds (sched b) hv i).list.getD 7 0 + (rotr ((rounds (sched b) hv i).list.getD 4 0) (UInt32.ofNat 6) ^^^ rotr ((rounds (sched b) hv i).list.getD 4 0) (UInt32.ofNat 11) ^^^ rotr ((rounds (sched b) hv i).list.getD 4 0) (UInt32.ofNat 25)) + ((rounds (sched b) hv i).list.getD 4 0 &&& (rounds (sched b) hv i).list.getD 5 0 ^^^ ~~~(rounds (sched b) hv i).list.getD 4 0 &&& (rounds (sched b) hv i).list.getD 6 0) + kTab.getD i 0 + (words b 64).getD i 0 +
        ((rotr ((rounds (sched b) hv i).list.getD 0 0) (UInt32.ofNat 2) ^^^ rotr ((rounds (sched b) hv i).list.getD 0 0) (UInt32.ofNat 13) ^^^ rotr ((rounds (sched b) hv i).list.getD 0 0) (UInt32.ofNat 22)) + ((rounds (sched b) hv i).list.getD 0 0 &&& (rounds (sched b) hv i).list.getD 1 0 ^^^ (rounds (sched b) hv i).list.getD 0 0 &&& (rounds (sched b) hv i).list.getD 2 0 ^^^ (rounds (sched b) hv i).list.getD 1 0 &&& (rounds (sched b) hv i).list.getD 2 0))).toNat : Int),
     .int .u32 (((rounds (sched b) hv i).list.getD 0 0).toNat : Int), .int .u32 (((rounds (sched b) hv i).list.getD 1 0).toNat : Int), .int .u32 (((rounds (sched b) hv i).list.getD 2 0).toNat : Int),
     .int .u32 (((rounds (sched b) hv i).list.getD 3 0 + ((rounds (sched b) hv i).list.getD 7 0 + (rotr ((rounds (sched b) hv i).list.getD 4 0) (UInt32.ofNat 6) ^^^ rotr ((rounds (sched b) hv i).list.getD 4 0) (UInt32.ofNat 11) ^^^ rotr ((rounds (sched b) hv i).list.getD 4 0) (UInt32.ofNat 25)) + ((rounds (sched b) hv i).list.getD 4 0 &&& (rounds (sched b) hv i).list.getD 5 0 ^^^ ~~~(rounds (sched b) hv i).list.getD 4 0 &&& (rounds (sched b) hv i).list.getD 6 0) + kTab.getD i 0 + (words b 64).getD i 0)).toNat : Int),
     .int .u32 (((rounds (sched b) hv i).list.getD 4 0).toNat : Int), .int .u32 (((rounds (sched b) hv i).list.getD 5 0).toNat : Int), .int .u32 (((rounds (sched b) hv i).list.getD 6 0).toNat : Int)] := by
  have e : rounds (sched b) hv (i + 1) = step8 (rounds (sched b) hv i) (kTab.getD i 0) ((words b 64).getD i 0) := rfl
  rw [e]
  generalize rounds (sched b) hv i = x
  generalize kTab.getD i 0 = k
  generalize (words b 64).getD i 0 = w
  obtain ⟨a, b, c, d, e, f, g, h⟩ := x
  simp only [V8.list, step8, Gw.stepT, Gw.stepU, mix_three, List.map_cons, List.map_nil, u32v, List.getD_cons_zero, List.getD_cons_succ]
  rfl
theorem blockS_get (hv : V8) (bl : List UInt8) (i : Nat) (h : i < 8) : (blockS hv bl).list.getD i 0 = hv.list.getD i 0 + (rounds (sched bl) hv 64).list.getD i 0 := add8_get _ _ i h
theorem k_at (i : Nat) (h : i < 64) : ((kTab.map u32v).toArray)[i]? = some (.int .u32 ((kTab.getD i 0).toNat : Int)) := get_map u32v kTab i 0 (by rw [kTab_len]; exact h)

theorem rblock_spec (gh caph gb ob capb : Nat) (curh curb : Array Value) (Th Tb : TypeId) (zh zb : Nat × Nat) (hv : V8) (bl : List UInt8) (hh : curh.toList.take (hv.list.map u32v).length = hv.list.map u32v) (hb : BytesIn curb ob bl) (hbl : bl.length = 64) :
    Does Tryz.prog 136 #[.slice (some ⟨gh, 0, none⟩) 8 caph, .slice (some ⟨gb, ob, none⟩) 64 capb] [[(gh, .cells curh Th zh)], [(gb, .cells curb Tb zb)]] (fun r H' => ∃ sv, Row 198 r ((blockS hv bl).list.map u32v) sv ∧ H' = [[(gh, .cells curh Th zh)], [(gb, .cells curb Tb zb)], sv]) := by
 have hml : maxLen = 9223372036854775807 := rfl
 refine spec_enter Tryz.func136 rfl Tryz.ntmps136 rfl ?_
 intro u R
 refine at_slots (env' := [(0, _), (1, _)]) [0, 1] rfl (fun _=>rfl) ?_
 refine at_seq ?_
 refine at_region ?_
 refine op_v (p_assign (fun _=>rfl)) ?_
 refine ops_nil ?_
 refine nx_next ?_
 refine at_seq ?_
 refine at_region ?_
 refine op_v (p_assign (fun _=>rfl)) ?_
 refine ops_nil ?_
 refine nx_next ?_
 refine at_seq ?_
 refine at_seq ?_
 refine at_region ?_
 refine op_v (p_assign (fun _=>rfl)) ?_
 refine ops_nil ?_
 refine nx_next ?_
 refine at_block ?_
 refine at_nil ?_
 refine at_slots (env' := [(5, _), (6, _), (0, _), (1, _)]) [5, 6, 0, 1] rfl (fun _=>rfl) ?_
 refine at_loopB (e0 := [(5, _), (6, _)]) (H0 := _) (n := _) (fun m e H => ∃ (i : Nat) (v : Value) (sv : List Chunk), m = 16 - i ∧ (i ≤ 16 ∧ Row 198 v ((words bl i).map u32v) sv) ∧ e = [(5, v), (6, .int .i64 (i : Int))] ∧ H = [sv]) (by exact ⟨0, _, [], rfl, ⟨Nat.zero_le _, row_nil _⟩, rfl, rfl⟩) (by repeat (first | exact Pull.nil _ | (apply Pull.cons; (focus (repeat (first | exact One.here _ _ | apply One.there)))))) ?_
 rintro _ _ _ ⟨i, v, sv, rfl, ⟨hi, hrv⟩, rfl, rfl⟩
 obtain ⟨gv, cv, rfl⟩ := hrv.form
 refine at_seq ?_
 refine at_seq ?_
 refine at_region ?_
 refine op_v (p_move (fun _=>rfl)) ?_
 first | refine op_v (p_lss_nat (n := 16) (fun _=>rfl) (fun _=>rfl)) ?_ | refine op_v (p_lss (fun _=>rfl) (fun _=>rfl)) ?_
 refine ops_nil ?_
 refine nx_next ?_
 first | refine at_if (fun _=>rfl) (fun hi16 => ?_) (fun hi16 => ?_) | refine at_if_bool (fun _=>rfl) (fun hi16 => ?_) (fun hi16 => ?_)
 ·
  refine at_skip ?_
  refine nx_next ?_
  refine at_seq ?_
  refine at_block ?_
  refine at_draw (n := 37) (0 :: 0 :: 0 :: 4 :: 14 :: 30 :: 62 :: 126 :: 0 :: 0 :: 512 :: 1536 :: 3840 :: 7936 :: 16128 :: 32512 :: 65534 :: 0 :: 0 :: 262144 :: 786432 :: 1966080 :: 4063232 :: 8257536 :: 16646144 :: 33554430 :: 0 :: 0 :: 134217728 :: 402653184 :: 1006632960 :: 2080374784 :: 4227858432 :: 8589934590 :: 17179869182 :: 34359738367 :: 68719476735 :: []) 51539607552 (by kernel_rfl) (by kernel_rfl) rfl ?_
  refine lin_v (D' := 1) 0 (p_move (fun _=>rfl)) ?_
  refine lin_v (D' := 3) 1 (p_move (fun _=>rfl)) ?_
  refine lin_v (D' := 7) 2 (p_move (fun _=>rfl)) ?_
  first | (refine lin_v (D' := 15) 3 (p_mul_nat (m := 4) (fun _=>rfl) (fun _=>rfl) ?_) ?_; (focus (omega))) | (refine lin_v (D' := 15) 3 (p_mul (fun _=>rfl) (fun _=>rfl) (IntWalk.i64_in _ ?_)) ?_; (focus (omega)))
  first | (refine lin_v (D' := 31) 4 (p_indexAddr_nat0 Tryz.underlying39 Tryz.sizeOf5 (fun _=>rfl) (fun _=>rfl) ?_) ?_; (focus (omega))) | (refine lin_v (D' := 31) 4 (p_indexAddr_nat1 Tryz.underlying39 Tryz.sizeOf5 (fun _=>rfl) (fun _=>rfl) ?_) ?_; (focus (omega)))
  refine lin_r (D' := 63) 5 rfl rfl rfl (by repeat (first | exact Has.here _ | apply Has.there)) (p_load Tryz.isAgg5 (fun _=>rfl) (by exact hb.get _ (by omega))) ?_
  first | refine lin_v (D' := 127) 6 (p_conv_u8_u32 Tryz.underlying5 Tryz.underlying198 (fun _=>rfl)) ?_ | (refine lin_v (D' := 127) 6 (p_conv_nat_u32 Tryz.underlying5 Tryz.underlying198 (fun _=>rfl) ?_) ?_; (focus (omega))) | (refine lin_v (D' := 127) 6 (p_conv_int Tryz.underlying5 Tryz.underlying198 (fun _=>rfl) (IntWalk.u32_in _ ?_)) ?_; (focus (omega)))
  (refine lin_v (D' := 255) 7 (p_shl_u32 (n := 24) (fun _=>rfl) (fun _=>rfl) ?_) ?_; (focus (omega)))
  refine lin_v (D' := 511) 8 (p_move (fun _=>rfl)) ?_
  refine lin_v (D' := 1023) 9 (p_move (fun _=>rfl)) ?_
  first | (refine lin_v (D' := 2047) 10 (p_mul_nat (m := 4) (fun _=>rfl) (fun _=>rfl) ?_) ?_; (focus (omega))) | (refine lin_v (D' := 2047) 10 (p_mul (fun _=>rfl) (fun _=>rfl) (IntWalk.i64_in _ ?_)) ?_; (focus (omega)))
  first | (refine lin_v (D' := 4095) 11 (p_add_nat (n := 1) (fun _=>rfl) (fun _=>rfl) ?_) ?_; (focus (omega))) | (refine lin_v (D' := 4095) 11 (p_add (fun _=>rfl) (fun _=>rfl) (IntWalk.i64_in _ ?_)) ?_; (focus (omega)))
  first | (refine lin_v (D' := 8191) 12 (p_indexAddr_nat0 Tryz.underlying39 Tryz.sizeOf5 (fun _=>rfl) (fun _=>rfl) ?_) ?_; (focus (omega))) | (refine lin_v (D' := 8191) 12 (p_indexAddr_nat1 Tryz.underlying39 Tryz.sizeOf5 (fun _=>rfl) (fun _=>rfl) ?_) ?_; (focus (omega)))
  refine lin_r (D' := 16383) 13 rfl rfl rfl (by repeat (first | exact Has.here _ | apply Has.there)) (p_load Tryz.isAgg5 (fun _=>rfl) (by exact hb.get _ (by omega))) ?_
  first | refine lin_v (D' := 32767) 14 (p_conv_u8_u32 Tryz.underlying5 Tryz.underlying198 (fun _=>rfl)) ?_ | (refine lin_v (D' := 32767) 14 (p_conv_nat_u32 Tryz.underlying5 Tryz.underlying198 (fun _=>rfl) ?_) ?_; (focus (omega))) | (refine lin_v (D' := 32767) 14 (p_conv_int Tryz.underlying5 Tryz.underlying198 (fun _=>rfl) (IntWalk.u32_in _ ?_)) ?_; (focus (omega)))
  (refine lin_v (D' := 65535) 15 (p_shl_u32 (n := 16) (fun _=>rfl) (fun _=>rfl) ?_) ?_; (focus (omega)))
  refine lin_v (D' := 131071) 16 (p_or_u32 (fun _=>rfl) (fun _=>rfl)) ?_
  refine lin_v (D' := 262143) 17 (p_move (fun _=>rfl)) ?_
  refine lin_v (D' := 524287) 18 (p_move (fun _=>rfl)) ?_
  first | (refine lin_v (D' := 1048575) 19 (p_mul_nat (m := 4) (fun _=>rfl) (fun _=>rfl) ?_) ?_; (focus (omega))) | (refine lin_v (D' := 1048575) 19 (p_mul (fun _=>rfl) (fun _=>rfl) (IntWalk.i64_in _ ?_)) ?_; (focus (omega)))
  first | (refine lin_v (D' := 2097151) 20 (p_add_nat (n := 2) (fun _=>rfl) (fun _=>rfl) ?_) ?_; (focus (omega))) | (refine lin_v (D' := 2097151) 20 (p_add (fun _=>rfl) (fun _=>rfl) (IntWalk.i64_in _ ?_)) ?_; (focus (omega)))
  first | (refine lin_v (D' := 4194303) 21 (p_indexAddr_nat0 Tryz.underlying39 Tryz.sizeOf5 (fun _=>rfl) (fun _=>rfl) ?_) ?_; (focus (omega))) | (refine lin_v (D' := 4194303) 21 (p_indexAddr_nat1 Tryz.underlying39 Tryz.sizeOf5 (fun _=>rfl) (fun _=>rfl) ?_) ?_; (focus (omega)))
  refine lin_r (D' := 8388607) 22 rfl rfl rfl (by repeat (first | exact Has.here _ | apply Has.there)) (p_load Tryz.isAgg5 (fun _=>rfl) (by exact hb.get _ (by omega))) ?_
  first | refine lin_v (D' := 16777215) 23 (p_conv_u8_u32 Tryz.underlying5 Tryz.underlying198 (fun _=>rfl)) ?_ | (refine lin_v (D' := 16777215) 23 (p_conv_nat_u32 Tryz.underlying5 Tryz.underlying198 (fun _=>rfl) ?_) ?_; (focus (omega))) | (refine lin_v (D' := 16777215) 23 (p_conv_int Tryz.underlying5 Tryz.underlying198 (fun _=>rfl) (IntWalk.u32_in _ ?_)) ?_; (focus (omega)))
  (refine lin_v (D' := 33554431) 24 (p_shl_u32 (n := 8) (fun _=>rfl) (fun _=>rfl) ?_) ?_; (focus (omega)))
  refine lin_v (D' := 67108863) 25 (p_or_u32 (fun _=>rfl) (fun _=>rfl)) ?_
  refine lin_v (D' := 134217727) 26 (p_move (fun _=>rfl)) ?_
  refine lin_v (D' := 268435455) 27 (p_move (fun _=>rfl)) ?_
  first | (refine lin_v (D' := 536870911) 28 (p_mul_nat (m := 4) (fun _=>rfl) (fun _=>rfl) ?_) ?_; (focus (omega))) | (refine lin_v (D' := 536870911) 28 (p_mul (fun _=>rfl) (fun _=>rfl) (IntWalk.i64_in _ ?_)) ?_; (focus (omega)))
  first | (refine lin_v (D' := 1073741823) 29 (p_add_nat (n := 3) (fun _=>rfl) (fun _=>rfl) ?_) ?_; (focus (omega))) | (refine lin_v (D' := 1073741823) 29 (p_add (fun _=>rfl) (fun _=>rfl) (IntWalk.i64_in _ ?_)) ?_; (focus (omega)))
  first | (refine lin_v (D' := 2147483647) 30 (p_indexAddr_nat0 Tryz.underlying39 Tryz.sizeOf5 (fun _=>rfl) (fun _=>rfl) ?_) ?_; (focus (omega))) | (refine lin_v (D' := 2147483647) 30 (p_indexAddr_nat1 Tryz.underlying39 Tryz.sizeOf5 (fun _=>rfl) (fun _=>rfl) ?_) ?_; (focus (omega)))
  refine lin_r (D' := 4294967295) 31 rfl rfl rfl (by repeat (first | exact Has.here _ | apply Has.there)) (p_load Tryz.isAgg5 (fun _=>rfl) (by exact hb.get _ (by omega))) ?_
  first | refine lin_v (D' := 8589934591) 32 (p_conv_u8_u32 Tryz.underlying5 Tryz.underlying198 (fun _=>rfl)) ?_ | (refine lin_v (D' := 8589934591) 32 (p_conv_nat_u32 Tryz.underlying5 Tryz.underlying198 (fun _=>rfl) ?_) ?_; (focus (omega))) | (refine lin_v (D' := 8589934591) 32 (p_conv_int Tryz.underlying5 Tryz.underlying198 (fun _=>rfl) (IntWalk.u32_in _ ?_)) ?_; (focus (omega)))
  refine lin_v (D' := 17179869183) 33 (p_or_u32 (fun _=>rfl) (fun _=>rfl)) ?_
  refine lin_eff (l := [34]) (by kernel_rfl) (by kernel_rfl) ?_
  refine each_cons (m := 17179869182) (D' := 34359738367) (is := [31, 22, 13, 5]) (bs := [false, false, false, false]) (T' := []) rfl (fun _=>rfl) rfl rfl rfl (by kernel_rfl) rfl (w_buildSlice (vs := [_]) (cs := [_]) Tryz.underlying212 Tryz.sizeOf198 Tryz.zeroValue198 (fun _=>rfl) rfl rfl rfl rfl rfl) ?hk_2 (fun _ _ h => h.elim) ?hl_2
  case hk_2 =>
   rintro _ _ ⟨b1, rfl, rfl⟩
   refine ⟨keep_nil, ?_⟩
   refine lin_eff (l := [35]) (by kernel_rfl) (by kernel_rfl) ?_
   refine each_cons (m := 34359738367) (D' := 68719476735) (is := []) (bs := []) (T' := []) rfl (fun _=>rfl) rfl rfl rfl (by kernel_rfl) rfl (w_append (by_ := 4) (news := [_]) Tryz.underlying212 (rfl : Tryz.prog.info? 198 = some Tryz.t198) rfl rfl rfl rfl (fun _=>rfl) hrv (fun _=>rfl) (by repeat (first | exact One.here _ _ | apply One.there)) (by repeat (first | exact Has.here _ | apply Has.there)) (by rfl) rfl (by simp [Value.oneCell']) (by decide) (by (simp only [List.length_map, words_len]; omega)) (by (simp only [List.length_map, words_len]; omega))) ?hk_3 (fun _ _ h => h.elim) ?hl_3
   case hk_3 =>
    rintro _ _ ⟨sq, hrq, rfl⟩
    refine ⟨keep_nil, ?_⟩
    obtain ⟨gq, cq, rfl⟩ := hrq.form
    refine lin_v (D' := 137438953471) 36 (p_assign (fun _=>rfl)) ?_
    refine lin_nil ?_
    refine nx_slots (env' := [(0, _), (1, _), (5, _), (6, _)]) [0, 1, 5, 6] rfl (fun _=>rfl) ?_
    refine nx_block_normal ?_
    refine nx_next ?_
    refine at_region ?_
    refine op_v (p_move (fun _=>rfl)) ?_
    first | (refine op_v (p_add_nat (n := 1) (fun _=>rfl) (fun _=>rfl) ?_) ?_; (focus (omega))) | (refine op_v (p_add (fun _=>rfl) (fun _=>rfl) (IntWalk.i64_in _ ?_)) ?_; (focus (omega)))
    refine op_v (p_assign (fun _=>rfl)) ?_
    refine ops_nil ?_
    refine nx_slots (env' := [(5, _), (6, _), (0, _), (1, _)]) [5, 6, 0, 1] rfl (fun _=>rfl) ?_
    refine nx_againB (e' := [(5, _), (6, _)]) (m := _) (H' := _) (by exact ⟨i + 1, _, _, rfl, ⟨by omega, by rw [words_map bl i _ (words_lo bl i (by omega))]; exact hrq⟩, rfl, rfl⟩)
   case hl_3 =>
    exact each_nil
  case hl_2 =>
   exact each_nil
 ·
  have ei : i = 16 := by omega
  subst ei
  refine at_exit ?_
  refine nx_thru (by intro h; cases h) ?_
  refine nx_thru (by intro h; cases h) ?_
  refine nx_block_exit ?_
  refine nx_next ?_
  refine at_seq ?_
  refine at_seq ?_
  refine at_region ?_
  refine op_v (p_assign (fun _=>rfl)) ?_
  refine ops_nil ?_
  refine nx_next ?_
  refine at_block ?_
  refine at_slots (env' := [(5, _), (7, _), (0, _)]) [5, 7, 0] rfl (fun _=>rfl) ?_
  refine at_loopB (e0 := [(5, _), (7, _)]) (H0 := _) (n := _) (fun m e H => ∃ (i : Nat) (v : Value) (sv : List Chunk), m = 64 - i ∧ (16 ≤ i ∧ i ≤ 64 ∧ Row 198 v ((words bl i).map u32v) sv) ∧ e = [(5, v), (7, .int .i64 (i : Int))] ∧ H = [sv]) (by exact ⟨16, _, _, rfl, ⟨Nat.le_refl _, by omega, hrv⟩, rfl, rfl⟩) (by repeat (first | exact Pull.nil _ | (apply Pull.cons; (focus (repeat (first | exact One.here _ _ | apply One.there)))))) ?_
  rintro _ _ _ ⟨i, v, sv, rfl, ⟨hi0, hi, hrv⟩, rfl, rfl⟩
  obtain ⟨gw, capw, curw, zw, rfl, rfl, hlew, hcmw, hcsw, htkw, hfrw⟩ := hrv.some (by rw [List.length_map]; first | (rw [words_len]; omega) | (show 0 < 8; decide))
  refine at_seq ?_
  refine at_seq ?_
  refine at_region ?_
  refine op_v (p_move (fun _=>rfl)) ?_
  first | refine op_v (p_lss_nat (n := 64) (fun _=>rfl) (fun _=>rfl)) ?_ | refine op_v (p_lss (fun _=>rfl) (fun _=>rfl)) ?_
  refine ops_nil ?_
  refine nx_next ?_
  first | refine at_if (fun _=>rfl) (fun hi64 => ?_) (fun hi64 => ?_) | refine at_if_bool (fun _=>rfl) (fun hi64 => ?_) (fun hi64 => ?_)
  ·
   refine at_skip ?_
   refine nx_next ?_
   refine at_seq ?_
   refine at_block ?_
   refine at_seq ?_
   refine at_draw (n := 21) (0 :: 0 :: 2 :: 7 :: 15 :: 31 :: 0 :: 0 :: 128 :: 448 :: 960 :: 2047 :: 4095 :: 0 :: 0 :: 16384 :: 57344 :: 122880 :: 253952 :: 524287 :: 1048575 :: []) 2080 (by kernel_rfl) (by kernel_rfl) rfl ?_
   refine lin_v (D' := 1) 0 (p_move (fun _=>rfl)) ?_
   refine lin_v (D' := 3) 1 (p_move (fun _=>rfl)) ?_
   first | (refine lin_v (D' := 7) 2 (p_sub_nat (n := 15) (fun _=>rfl) (fun _=>rfl) ?_ ?_) ?_; (focus (omega)); (focus (omega))) | (refine lin_v (D' := 7) 2 (p_sub (fun _=>rfl) (fun _=>rfl) (IntWalk.i64_in _ ?_)) ?_; (focus (omega)))
   first | (refine lin_v (D' := 15) 3 (p_indexAddr_nat0 Tryz.underlying212 Tryz.sizeOf198 (fun _=>rfl) (fun _=>rfl) ?_) ?_; (focus (first | omega | (rw [List.length_map, words_len]; omega) | (rw [List.length_map]; show _ < 8; omega) | decide))) | (refine lin_v (D' := 15) 3 (p_indexAddr_nat1 Tryz.underlying212 Tryz.sizeOf198 (fun _=>rfl) (fun _=>rfl) ?_) ?_; (focus (first | omega | (rw [List.length_map, words_len]; omega) | (rw [List.length_map]; show _ < 8; omega) | decide)))
   refine lin_r (D' := 31) 4 rfl rfl rfl (by repeat (first | exact Has.here _ | apply Has.there)) (p_load Tryz.isAgg198 (fun _=>rfl) (by exact words_at htkw (by omega))) ?_
   refine lin_v (D' := 95) 6 (p_move (fun _=>rfl)) ?_
   refine lin_v (D' := 223) 7 (p_move (fun _=>rfl)) ?_
   first | (refine lin_v (D' := 479) 8 (p_sub_nat (n := 15) (fun _=>rfl) (fun _=>rfl) ?_ ?_) ?_; (focus (omega)); (focus (omega))) | (refine lin_v (D' := 479) 8 (p_sub (fun _=>rfl) (fun _=>rfl) (IntWalk.i64_in _ ?_)) ?_; (focus (omega)))
   first | (refine lin_v (D' := 991) 9 (p_indexAddr_nat0 Tryz.underlying212 Tryz.sizeOf198 (fun _=>rfl) (fun _=>rfl) ?_) ?_; (focus (first | omega | (rw [List.length_map, words_len]; omega) | (rw [List.length_map]; show _ < 8; omega) | decide))) | (refine lin_v (D' := 991) 9 (p_indexAddr_nat1 Tryz.underlying212 Tryz.sizeOf198 (fun _=>rfl) (fun _=>rfl) ?_) ?_; (focus (first | omega | (rw [List.length_map, words_len]; omega) | (rw [List.length_map]; show _ < 8; omega) | decide)))
   refine lin_r (D' := 2015) 10 rfl rfl rfl (by repeat (first | exact Has.here _ | apply Has.there)) (p_load Tryz.isAgg198 (fun _=>rfl) (by exact words_at htkw (by omega))) ?_
   refine lin_v (D' := 10207) 13 (p_move (fun _=>rfl)) ?_
   refine lin_v (D' := 26591) 14 (p_move (fun _=>rfl)) ?_
   first | (refine lin_v (D' := 59359) 15 (p_sub_nat (n := 15) (fun _=>rfl) (fun _=>rfl) ?_ ?_) ?_; (focus (omega)); (focus (omega))) | (refine lin_v (D' := 59359) 15 (p_sub (fun _=>rfl) (fun _=>rfl) (IntWalk.i64_in _ ?_)) ?_; (focus (omega)))
   first | (refine lin_v (D' := 124895) 16 (p_indexAddr_nat0 Tryz.underlying212 Tryz.sizeOf198 (fun _=>rfl) (fun _=>rfl) ?_) ?_; (focus (first | omega | (rw [List.length_map, words_len]; omega) | (rw [List.length_map]; show _ < 8; omega) | decide))) | (refine lin_v (D' := 124895) 16 (p_indexAddr_nat1 Tryz.underlying212 Tryz.sizeOf198 (fun _=>rfl) (fun _=>rfl) ?_) ?_; (focus (first | omega | (rw [List.length_map, words_len]; omega) | (rw [List.length_map]; show _ < 8; omega) | decide)))
   refine lin_r (D' := 255967) 17 rfl rfl rfl (by repeat (first | exact Has.here _ | apply Has.there)) (p_load Tryz.isAgg198 (fun _=>rfl) (by exact words_at htkw (by omega))) ?_
   (refine lin_v (D' := 518111) 18 (p_shr_u32 (n := 3) (fun _=>rfl) (fun _=>rfl) ?_) ?_; (focus (omega)))
   refine lin_eff (l := [5]) (by kernel_rfl) (by kernel_rfl) ?_
   refine each_cons (m := 31) (D' := 518143) (is := [17, 10, 4]) (bs := [true, true, false]) (T' := [(17, (_, _)), (10, (_, _))]) rfl (fun _=>rfl) rfl rfl rfl (by kernel_rfl) rfl (w_callR (vs := [_, _]) (fun _=>rfl) Tryz.call154 (fun _=>rfl) rfl (rrot_spec _ 7 (by decide) (by decide)) (by repeat (first | exact Pull.nil _ | (apply Pull.cons; (focus (repeat (first | exact One.here _ _ | apply One.there))))))) ?hk_6 (fun _ _ h => h.elim) ?hl_6
   case hk_6 =>
    rintro _ _ ⟨rfl, rfl⟩
    refine ⟨keep_cons (by repeat (first | exact Has.here _ | apply Has.there)) (keep_cons (by repeat (first | exact Has.here _ | apply Has.there)) (keep_nil)), ?_⟩
    refine lin_eff (l := [11]) (by kernel_rfl) (by kernel_rfl) ?_
    refine each_cons (m := 2047) (D' := 520191) (is := [17, 10]) (bs := [true, false]) (T' := [(17, (_, _))]) rfl (fun _=>rfl) rfl rfl rfl (by kernel_rfl) rfl (w_callR (vs := [_, _]) (fun _=>rfl) Tryz.call154 (fun _=>rfl) rfl (rrot_spec _ 18 (by decide) (by decide)) (by repeat (first | exact Pull.nil _ | (apply Pull.cons; (focus (repeat (first | exact One.here _ _ | apply One.there))))))) ?hk_7 (fun _ _ h => h.elim) ?hl_7
    case hk_7 =>
     rintro _ _ ⟨rfl, rfl⟩
     refine ⟨keep_cons (by repeat (first | exact Has.here _ | apply Has.there)) (keep_nil), ?_⟩
     refine lin_v (D' := 524287) 12 (p_xor_u32 (fun _=>rfl) (fun _=>rfl)) ?_
     refine lin_v (D' := 1048575) 19 (p_xor_u32 (fun _=>rfl) (fun _=>rfl)) ?_
     refine lin_v (D' := 2097151) 20 (p_assign (fun _=>rfl)) ?_
     refine lin_nil ?_
     refine nx_slots (env' := [(0, _), (5, _), (7, _), (8, _)]) [0, 5, 7, 8] rfl (fun _=>rfl) ?_
     refine nx_next ?_
     refine at_seq ?_
     refine at_draw (n := 21) (0 :: 0 :: 2 :: 7 :: 15 :: 31 :: 0 :: 0 :: 128 :: 448 :: 960 :: 2047 :: 4095 :: 0 :: 0 :: 16384 :: 57344 :: 122880 :: 253952 :: 524287 :: 1048575 :: []) 2080 (by kernel_rfl) (by kernel_rfl) rfl ?_
     refine lin_v (D' := 1) 0 (p_move (fun _=>rfl)) ?_
     refine lin_v (D' := 3) 1 (p_move (fun _=>rfl)) ?_
     first | (refine lin_v (D' := 7) 2 (p_sub_nat (n := 2) (fun _=>rfl) (fun _=>rfl) ?_ ?_) ?_; (focus (omega)); (focus (omega))) | (refine lin_v (D' := 7) 2 (p_sub (fun _=>rfl) (fun _=>rfl) (IntWalk.i64_in _ ?_)) ?_; (focus (omega)))
     first | (refine lin_v (D' := 15) 3 (p_indexAddr_nat0 Tryz.underlying212 Tryz.sizeOf198 (fun _=>rfl) (fun _=>rfl) ?_) ?_; (focus (first | omega | (rw [List.length_map, words_len]; omega) | (rw [List.length_map]; show _ < 8; omega) | decide))) | (refine lin_v (D' := 15) 3 (p_indexAddr_nat1 Tryz.underlying212 Tryz.sizeOf198 (fun _=>rfl) (fun _=>rfl) ?_) ?_; (focus (first | omega | (rw [List.length_map, words_len]; omega) | (rw [List.length_map]; show _ < 8; omega) | decide)))
     refine lin_r (D' := 31) 4 rfl rfl rfl (by repeat (first | exact Has.here _ | apply Has.there)) (p_load Tryz.isAgg198 (fun _=>rfl) (by exact words_at htkw (by omega))) ?_
     refine lin_v (D' := 95) 6 (p_move (fun _=>rfl)) ?_
     refine lin_v (D' := 223) 7 (p_move (fun _=>rfl)) ?_
     first | (refine lin_v (D' := 479) 8 (p_sub_nat (n := 2) (fun _=>rfl) (fun _=>rfl) ?_ ?_) ?_; (focus (omega)); (focus (omega))) | (refine lin_v (D' := 479) 8 (p_sub (fun _=>rfl) (fun _=>rfl) (IntWalk.i64_in _ ?_)) ?_; (focus (omega)))
     first | (refine lin_v (D' := 991) 9 (p_indexAddr_nat0 Tryz.underlying212 Tryz.sizeOf198 (fun _=>rfl) (fun _=>rfl) ?_) ?_; (focus (first | omega | (rw [List.length_map, words_len]; omega) | (rw [List.length_map]; show _ < 8; omega) | decide))) | (refine lin_v (D' := 991) 9 (p_indexAddr_nat1 Tryz.underlying212 Tryz.sizeOf198 (fun _=>rfl) (fun _=>rfl) ?_) ?_; (focus (first | omega | (rw [List.length_map, words_len]; omega) | (rw [List.length_map]; show _ < 8; omega) | decide)))
     refine lin_r (D' := 2015) 10 rfl rfl rfl (by repeat (first | exact Has.here _ | apply Has.there)) (p_load Tryz.isAgg198 (fun _=>rfl) (by exact words_at htkw (by omega))) ?_
     refine lin_v (D' := 10207) 13 (p_move (fun _=>rfl)) ?_
     refine lin_v (D' := 26591) 14 (p_move (fun _=>rfl)) ?_
     first | (refine lin_v (D' := 59359) 15 (p_sub_nat (n := 2) (fun _=>rfl) (fun _=>rfl) ?_ ?_) ?_; (focus (omega)); (focus (omega))) | (refine lin_v (D' := 59359) 15 (p_sub (fun _=>rfl) (fun _=>rfl) (IntWalk.i64_in _ ?_)) ?_; (focus (omega)))
     first | (refine lin_v (D' := 124895) 16 (p_indexAddr_nat0 Tryz.underlying212 Tryz.sizeOf198 (fun _=>rfl) (fun _=>rfl) ?_) ?_; (focus (first | omega | (rw [List.length_map, words_len]; omega) | (rw [List.length_map]; show _ < 8; omega) | decide))) | (refine lin_v (D' := 124895) 16 (p_indexAddr_nat1 Tryz.underlying212 Tryz.sizeOf198 (fun _=>rfl) (fun _=>rfl) ?_) ?_; (focus (first | omega | (rw [List.length_map, words_len]; omega) | (rw [List.length_map]; show _ < 8; omega) | decide)))
     refine lin_r (D' := 255967) 17 rfl rfl rfl (by repeat (first | exact Has.here _ | apply Has.there)) (p_load Tryz.isAgg198 (fun _=>rfl) (by exact words_at htkw (by omega))) ?_
     (refine lin_v (D' := 518111) 18 (p_shr_u32 (n := 10) (fun _=>rfl) (fun _=>rfl) ?_) ?_; (focus (omega)))
     refine lin_eff (l := [5]) (by kernel_rfl) (by kernel_rfl) ?_
     refine each_cons (m := 31) (D' := 518143) (is := [17, 10, 4]) (bs := [true, true, false]) (T' := [(17, (_, _)), (10, (_, _))]) rfl (fun _=>rfl) rfl rfl rfl (by kernel_rfl) rfl (w_callR (vs := [_, _]) (fun _=>rfl) Tryz.call154 (fun _=>rfl) rfl (rrot_spec _ 17 (by decide) (by decide)) (by repeat (first | exact Pull.nil _ | (apply Pull.cons; (focus (repeat (first | exact One.here _ _ | apply One.there))))))) ?hk_8 (fun _ _ h => h.elim) ?hl_8
     case hk_8 =>
      rintro _ _ ⟨rfl, rfl⟩
      refine ⟨keep_cons (by repeat (first | exact Has.here _ | apply Has.there)) (keep_cons (by repeat (first | exact Has.here _ | apply Has.there)) (keep_nil)), ?_⟩
      refine lin_eff (l := [11]) (by kernel_rfl) (by kernel_rfl) ?_
      refine each_cons (m := 2047) (D' := 520191) (is := [17, 10]) (bs := [true, false]) (T' := [(17, (_, _))]) rfl (fun _=>rfl) rfl rfl rfl (by kernel_rfl) rfl (w_callR (vs := [_, _]) (fun _=>rfl) Tryz.call154 (fun _=>rfl) rfl (rrot_spec _ 19 (by decide) (by decide)) (by repeat (first | exact Pull.nil _ | (apply Pull.cons; (focus (repeat (first | exact One.here _ _ | apply One.there))))))) ?hk_9 (fun _ _ h => h.elim) ?hl_9
      case hk_9 =>
       rintro _ _ ⟨rfl, rfl⟩
       refine ⟨keep_cons (by repeat (first | exact Has.here _ | apply Has.there)) (keep_nil), ?_⟩
       refine lin_v (D' := 524287) 12 (p_xor_u32 (fun _=>rfl) (fun _=>rfl)) ?_
       refine lin_v (D' := 1048575) 19 (p_xor_u32 (fun _=>rfl) (fun _=>rfl)) ?_
       refine lin_v (D' := 2097151) 20 (p_assign (fun _=>rfl)) ?_
       refine lin_nil ?_
       refine nx_slots (env' := [(0, _), (5, _), (7, _), (8, _), (9, _)]) [0, 5, 7, 8, 9] rfl (fun _=>rfl) ?_
       refine nx_next ?_
       refine at_draw (n := 19) (0 :: 0 :: 0 :: 4 :: 14 :: 30 :: 0 :: 126 :: 0 :: 0 :: 512 :: 1792 :: 3840 :: 8190 :: 0 :: 32766 :: 65534 :: 131071 :: 262143 :: []) 196608 (by kernel_rfl) (by kernel_rfl) rfl ?_
       refine lin_v (D' := 1) 0 (p_move (fun _=>rfl)) ?_
       refine lin_v (D' := 3) 1 (p_move (fun _=>rfl)) ?_
       refine lin_v (D' := 7) 2 (p_move (fun _=>rfl)) ?_
       first | (refine lin_v (D' := 15) 3 (p_sub_nat (n := 16) (fun _=>rfl) (fun _=>rfl) ?_ ?_) ?_; (focus (omega)); (focus (omega))) | (refine lin_v (D' := 15) 3 (p_sub (fun _=>rfl) (fun _=>rfl) (IntWalk.i64_in _ ?_)) ?_; (focus (omega)))
       first | (refine lin_v (D' := 31) 4 (p_indexAddr_nat0 Tryz.underlying212 Tryz.sizeOf198 (fun _=>rfl) (fun _=>rfl) ?_) ?_; (focus (first | omega | (rw [List.length_map, words_len]; omega) | (rw [List.length_map]; show _ < 8; omega) | decide))) | (refine lin_v (D' := 31) 4 (p_indexAddr_nat1 Tryz.underlying212 Tryz.sizeOf198 (fun _=>rfl) (fun _=>rfl) ?_) ?_; (focus (first | omega | (rw [List.length_map, words_len]; omega) | (rw [List.length_map]; show _ < 8; omega) | decide)))
       refine lin_r (D' := 63) 5 rfl rfl rfl (by repeat (first | exact Has.here _ | apply Has.there)) (p_load Tryz.isAgg198 (fun _=>rfl) (by exact words_at htkw (by omega))) ?_
       refine lin_v (D' := 127) 6 (p_move (fun _=>rfl)) ?_
       refine lin_v (D' := 255) 7 (p_add_u32 (fun _=>rfl) (fun _=>rfl)) ?_
       refine lin_v (D' := 511) 8 (p_move (fun _=>rfl)) ?_
       refine lin_v (D' := 1023) 9 (p_move (fun _=>rfl)) ?_
       first | (refine lin_v (D' := 2047) 10 (p_sub_nat (n := 7) (fun _=>rfl) (fun _=>rfl) ?_ ?_) ?_; (focus (omega)); (focus (omega))) | (refine lin_v (D' := 2047) 10 (p_sub (fun _=>rfl) (fun _=>rfl) (IntWalk.i64_in _ ?_)) ?_; (focus (omega)))
       first | (refine lin_v (D' := 4095) 11 (p_indexAddr_nat0 Tryz.underlying212 Tryz.sizeOf198 (fun _=>rfl) (fun _=>rfl) ?_) ?_; (focus (first | omega | (rw [List.length_map, words_len]; omega) | (rw [List.length_map]; show _ < 8; omega) | decide))) | (refine lin_v (D' := 4095) 11 (p_indexAddr_nat1 Tryz.underlying212 Tryz.sizeOf198 (fun _=>rfl) (fun _=>rfl) ?_) ?_; (focus (first | omega | (rw [List.length_map, words_len]; omega) | (rw [List.length_map]; show _ < 8; omega) | decide)))
       refine lin_r (D' := 8191) 12 rfl rfl rfl (by repeat (first | exact Has.here _ | apply Has.there)) (p_load Tryz.isAgg198 (fun _=>rfl) (by exact words_at htkw (by omega))) ?_
       refine lin_v (D' := 16383) 13 (p_add_u32 (fun _=>rfl) (fun _=>rfl)) ?_
       refine lin_v (D' := 32767) 14 (p_move (fun _=>rfl)) ?_
       refine lin_v (D' := 65535) 15 (p_add_u32 (fun _=>rfl) (fun _=>rfl)) ?_
       refine lin_eff (l := [16]) (by kernel_rfl) (by kernel_rfl) ?_
       refine each_cons (m := 65534) (D' := 131071) (is := [12, 5]) (bs := [false, false]) (T' := []) rfl (fun _=>rfl) rfl rfl rfl (by kernel_rfl) rfl (w_buildSlice (vs := [_]) (cs := [_]) Tryz.underlying212 Tryz.sizeOf198 Tryz.zeroValue198 (fun _=>rfl) rfl rfl rfl rfl rfl) ?hk_10 (fun _ _ h => h.elim) ?hl_10
       case hk_10 =>
        rintro _ _ ⟨b3, rfl, rfl⟩
        refine ⟨keep_nil, ?_⟩
        refine lin_eff (l := [17]) (by kernel_rfl) (by kernel_rfl) ?_
        refine each_cons (m := 131071) (D' := 262143) (is := []) (bs := []) (T' := []) rfl (fun _=>rfl) rfl rfl rfl (by kernel_rfl) rfl (w_append (by_ := 4) (news := [_]) Tryz.underlying212 (rfl : Tryz.prog.info? 198 = some Tryz.t198) rfl rfl rfl rfl (fun _=>rfl) hrv (fun _=>rfl) (by repeat (first | exact One.here _ _ | apply One.there)) (by repeat (first | exact Has.here _ | apply Has.there)) (by rfl) rfl (by simp [Value.oneCell']) (by decide) (by (simp only [List.length_map, words_len]; omega)) (by (simp only [List.length_map, words_len]; omega))) ?hk_11 (fun _ _ h => h.elim) ?hl_11
        case hk_11 =>
         rintro _ _ ⟨sq2, hrq2, rfl⟩
         refine ⟨keep_nil, ?_⟩
         obtain ⟨gq2, cq2, rfl⟩ := hrq2.form
         refine lin_v (D' := 524287) 18 (p_assign (fun _=>rfl)) ?_
         refine lin_nil ?_
         refine nx_slots (env' := [(0, _), (5, _), (7, _)]) [0, 5, 7] rfl (fun _=>rfl) ?_
         refine nx_block_normal ?_
         refine nx_next ?_
         refine at_region ?_
         refine op_v (p_move (fun _=>rfl)) ?_
         first | (refine op_v (p_add_nat (n := 1) (fun _=>rfl) (fun _=>rfl) ?_) ?_; (focus (omega))) | (refine op_v (p_add (fun _=>rfl) (fun _=>rfl) (IntWalk.i64_in _ ?_)) ?_; (focus (omega)))
         refine op_v (p_assign (fun _=>rfl)) ?_
         refine ops_nil ?_
         refine nx_slots (env' := [(5, _), (7, _), (0, _)]) [5, 7, 0] rfl (fun _=>rfl) ?_
         refine nx_againB (e' := [(5, _), (7, _)]) (m := _) (H' := _) (by exact ⟨i + 1, _, _, rfl, ⟨by omega, by omega, by rw [words_map bl i _ (words_hi bl i (by omega)), nextW_ref]; exact hrq2⟩, rfl, rfl⟩)
        case hl_11 =>
         exact each_nil
       case hl_10 =>
        exact each_nil
      case hl_9 =>
       exact each_nil
     case hl_8 =>
      exact each_nil
    case hl_7 =>
     exact each_nil
   case hl_6 =>
    exact each_nil
  ·
   have ei : i = 64 := by omega
   subst ei
   have htkW := htkw
   refine at_exit ?_
   refine nx_thru (by intro h; cases h) ?_
   refine nx_thru (by intro h; cases h) ?_
   refine nx_block_exit ?_
   refine nx_next ?_
   refine at_seq ?_
   refine at_region ?_
   refine ops_eff (fun _=>rfl) (fits_of rfl) rfl (w_call (vs := []) (fun _=>rfl) Tryz.call155 (fun _=>rfl) rfl (rconst_spec) (by repeat (first | exact Pull.nil _ | (apply Pull.cons; (focus (repeat (first | exact One.here _ _ | apply One.there))))))) ?_ no_pan
   rintro _ _ ⟨_, ⟨gk, rfl, rfl⟩, rfl⟩
   refine op_v (p_assign (fun _=>rfl)) ?_
   refine ops_nil ?_
   refine nx_next ?_
   refine at_seq ?_
   refine at_region ?_
   refine op_v (p_assign (fun _=>rfl)) ?_
   refine ops_nil ?_
   refine nx_next ?_
   refine at_seq ?_
   refine at_nil ?_
   refine at_region ?_
   refine op_v (p_move (fun _=>rfl)) ?_
   refine op_v (p_move (fun _=>rfl)) ?_
   refine op_e (w_append (by_ := 4) Tryz.underlying212 (rfl : Tryz.prog.info? 198 = some Tryz.t198) rfl rfl rfl rfl (fun _=>rfl) (row_nil _) (fun _=>rfl) (by repeat (first | exact One.here _ _ | apply One.there)) (by repeat (first | exact Has.here _ | apply Has.there)) (by exact (show (curh.toList.drop 0).take (hv.list.map u32v).length = _ by rw [List.drop_zero]; exact hh)) rfl (by simp [Value.oneCell', u32v, V8.list]) (by decide) (by decide) (by decide)) (fun _=>rfl) rfl rfl ?_
   rintro _ _ ⟨sv0, hrv0, rfl⟩
   obtain ⟨gv0, cv0, rfl⟩ := hrv0.form
   rw [List.nil_append] at hrv0 ⊢
   refine op_v (p_assign (fun _=>rfl)) ?_
   refine ops_nil ?_
   refine nx_next ?_
   refine at_seq ?_
   refine at_seq ?_
   refine at_region ?_
   refine op_v (p_assign (fun _=>rfl)) ?_
   refine ops_nil ?_
   refine nx_next ?_
   refine at_block ?_
   refine at_slots (env' := [(11, _), (12, _), (0, _), (5, _), (10, _)]) [11, 12, 0, 5, 10] rfl (fun _=>rfl) ?_
   refine at_loopB (e0 := [(11, _), (12, _)]) (H0 := _) (n := _) (fun m e H => ∃ (i : Nat) (v : Value) (sv : List Chunk), m = 64 - i ∧ (i ≤ 64 ∧ Row 198 v ((rounds (sched bl) hv i).list.map u32v) sv) ∧ e = [(11, v), (12, .int .i64 (i : Int))] ∧ H = [sv]) (by exact ⟨0, _, _, rfl, ⟨Nat.zero_le _, hrv0⟩, rfl, rfl⟩) (by repeat (first | exact Pull.nil _ | (apply Pull.cons; (focus (repeat (first | exact One.here _ _ | apply One.there)))))) ?_
   rintro _ _ _ ⟨i, v, sv, rfl, ⟨hi, hrr⟩, rfl, rfl⟩
   obtain ⟨gr, capr, curr, zr, rfl, rfl, hler, hcmr, hcsr, htkr, hfrr⟩ := hrr.some (by rw [List.length_map]; first | (rw [words_len]; omega) | (show 0 < 8; decide))
   refine at_seq ?_
   refine at_seq ?_
   refine at_region ?_
   refine op_v (p_move (fun _=>rfl)) ?_
   first | refine op_v (p_lss_nat (n := 64) (fun _=>rfl) (fun _=>rfl)) ?_ | refine op_v (p_lss (fun _=>rfl) (fun _=>rfl)) ?_
   refine ops_nil ?_
   refine nx_next ?_
   first | refine at_if (fun _=>rfl) (fun hj64 => ?_) (fun hj64 => ?_) | refine at_if_bool (fun _=>rfl) (fun hj64 => ?_) (fun hj64 => ?_)
   ·
    refine at_skip ?_
    refine nx_next ?_
    refine at_seq ?_
    refine at_block ?_
    refine at_seq ?_
    refine at_region ?_
    refine op_v (p_move (fun _=>rfl)) ?_
    first | (refine op_v (p_indexAddr_nat0 (j := 0) Tryz.underlying212 Tryz.sizeOf198 (fun _=>rfl) (fun _=>rfl) ?_) ?_; (focus (first | omega | (rw [List.length_map, words_len]; omega) | (rw [List.length_map]; show _ < 8; omega) | decide))) | (refine op_v (p_indexAddr_nat1 (j := 0) Tryz.underlying212 Tryz.sizeOf198 (fun _=>rfl) (fun _=>rfl) ?_) ?_; (focus (first | omega | (rw [List.length_map, words_len]; omega) | (rw [List.length_map]; show _ < 8; omega) | decide)))
    refine op_r (by repeat (first | exact Has.here _ | apply Has.there)) (p_load Tryz.isAgg198 (fun _=>rfl) (by exact v8_at htkr 0 (by decide))) rfl rfl ?_
    refine op_v (p_assign (fun _=>rfl)) ?_
    refine ops_nil ?_
    refine nx_next ?_
    refine at_seq ?_
    refine at_region ?_
    refine op_v (p_move (fun _=>rfl)) ?_
    first | (refine op_v (p_indexAddr_nat0 (j := 4) Tryz.underlying212 Tryz.sizeOf198 (fun _=>rfl) (fun _=>rfl) ?_) ?_; (focus (first | omega | (rw [List.length_map, words_len]; omega) | (rw [List.length_map]; show _ < 8; omega) | decide))) | (refine op_v (p_indexAddr_nat1 (j := 4) Tryz.underlying212 Tryz.sizeOf198 (fun _=>rfl) (fun _=>rfl) ?_) ?_; (focus (first | omega | (rw [List.length_map, words_len]; omega) | (rw [List.length_map]; show _ < 8; omega) | decide)))
    refine op_r (by repeat (first | exact Has.here _ | apply Has.there)) (p_load Tryz.isAgg198 (fun _=>rfl) (by exact v8_at htkr 4 (by decide))) rfl rfl ?_
    refine op_v (p_assign (fun _=>rfl)) ?_
    refine ops_nil ?_
    refine nx_next ?_
    refine at_seq ?_
    refine at_draw (n := 36) (0 :: 1 :: 3 :: 0 :: 8 :: 0 :: 56 :: 120 :: 0 :: 376 :: 1016 :: 2047 :: 0 :: 0 :: 8192 :: 24576 :: 61440 :: 0 :: 131072 :: 0 :: 524288 :: 1572864 :: 4063232 :: 8384512 :: 16777215 :: 0 :: 0 :: 100663296 :: 234881024 :: 536870911 :: 0 :: 0 :: 3221225472 :: 7516192768 :: 17179869183 :: 34359738367 :: []) 592 (by kernel_rfl) (by kernel_rfl) rfl ?_
    refine lin_v (D' := 1) 0 (p_move (fun _=>rfl)) ?_
    first | (refine lin_v (D' := 3) 1 (p_indexAddr_nat0 (j := 7) Tryz.underlying212 Tryz.sizeOf198 (fun _=>rfl) (fun _=>rfl) ?_) ?_; (focus (first | omega | (rw [List.length_map, words_len]; omega) | (rw [List.length_map]; show _ < 8; omega) | decide))) | (refine lin_v (D' := 3) 1 (p_indexAddr_nat1 (j := 7) Tryz.underlying212 Tryz.sizeOf198 (fun _=>rfl) (fun _=>rfl) ?_) ?_; (focus (first | omega | (rw [List.length_map, words_len]; omega) | (rw [List.length_map]; show _ < 8; omega) | decide)))
    refine lin_r (D' := 7) 2 rfl rfl rfl (by repeat (first | exact Has.here _ | apply Has.there)) (p_load Tryz.isAgg198 (fun _=>rfl) (by exact v8_at htkr 7 (by decide))) ?_
    refine lin_v (D' := 15) 3 (p_move (fun _=>rfl)) ?_
    refine lin_v (D' := 47) 5 (p_move (fun _=>rfl)) ?_
    refine lin_v (D' := 303) 8 (p_move (fun _=>rfl)) ?_
    refine lin_v (D' := 4399) 12 (p_move (fun _=>rfl)) ?_
    refine lin_v (D' := 12591) 13 (p_move (fun _=>rfl)) ?_
    first | (refine lin_v (D' := 28975) 14 (p_indexAddr_nat0 (j := 5) Tryz.underlying212 Tryz.sizeOf198 (fun _=>rfl) (fun _=>rfl) ?_) ?_; (focus (first | omega | (rw [List.length_map, words_len]; omega) | (rw [List.length_map]; show _ < 8; omega) | decide))) | (refine lin_v (D' := 28975) 14 (p_indexAddr_nat1 (j := 5) Tryz.underlying212 Tryz.sizeOf198 (fun _=>rfl) (fun _=>rfl) ?_) ?_; (focus (first | omega | (rw [List.length_map, words_len]; omega) | (rw [List.length_map]; show _ < 8; omega) | decide)))
    refine lin_r (D' := 61743) 15 rfl rfl rfl (by repeat (first | exact Has.here _ | apply Has.there)) (p_load Tryz.isAgg198 (fun _=>rfl) (by exact v8_at htkr 5 (by decide))) ?_
    refine lin_v (D' := 127279) 16 (p_and_u32 (fun _=>rfl) (fun _=>rfl)) ?_
    refine lin_v (D' := 258351) 17 (p_move (fun _=>rfl)) ?_
    refine lin_v (D' := 520495) 18 (p_cpl_u32 (fun _=>rfl)) ?_
    refine lin_v (D' := 1044783) 19 (p_move (fun _=>rfl)) ?_
    first | (refine lin_v (D' := 2093359) 20 (p_indexAddr_nat0 (j := 6) Tryz.underlying212 Tryz.sizeOf198 (fun _=>rfl) (fun _=>rfl) ?_) ?_; (focus (first | omega | (rw [List.length_map, words_len]; omega) | (rw [List.length_map]; show _ < 8; omega) | decide))) | (refine lin_v (D' := 2093359) 20 (p_indexAddr_nat1 (j := 6) Tryz.underlying212 Tryz.sizeOf198 (fun _=>rfl) (fun _=>rfl) ?_) ?_; (focus (first | omega | (rw [List.length_map, words_len]; omega) | (rw [List.length_map]; show _ < 8; omega) | decide)))
    refine lin_r (D' := 4190511) 21 rfl rfl rfl (by repeat (first | exact Has.here _ | apply Has.there)) (p_load Tryz.isAgg198 (fun _=>rfl) (by exact v8_at htkr 6 (by decide))) ?_
    refine lin_v (D' := 8384815) 22 (p_and_u32 (fun _=>rfl) (fun _=>rfl)) ?_
    refine lin_v (D' := 16773423) 23 (p_xor_u32 (fun _=>rfl) (fun _=>rfl)) ?_
    refine lin_v (D' := 50327855) 25 (p_move (fun _=>rfl)) ?_
    refine lin_v (D' := 117436719) 26 (p_move (fun _=>rfl)) ?_
    first | (refine lin_v (D' := 251654447) 27 (p_indexAddr_nat0 Tryz.underlying212 Tryz.sizeOf198 (fun _=>rfl) (fun _=>rfl) ?_) ?_; (focus (first | omega | (rw [List.length_map, words_len]; omega) | (rw [List.length_map]; show _ < 8; omega) | decide))) | (refine lin_v (D' := 251654447) 27 (p_indexAddr_nat1 Tryz.underlying212 Tryz.sizeOf198 (fun _=>rfl) (fun _=>rfl) ?_) ?_; (focus (first | omega | (rw [List.length_map, words_len]; omega) | (rw [List.length_map]; show _ < 8; omega) | decide)))
    refine lin_r (D' := 520089903) 28 rfl rfl rfl (by repeat (first | exact Has.here _ | apply Has.there)) (p_load Tryz.isAgg198 (fun _=>rfl) (by exact k_at i (by omega))) ?_
    refine lin_v (D' := 1593831727) 30 (p_move (fun _=>rfl)) ?_
    refine lin_v (D' := 3741315375) 31 (p_move (fun _=>rfl)) ?_
    first | (refine lin_v (D' := 8036282671) 32 (p_indexAddr_nat0 Tryz.underlying212 Tryz.sizeOf198 (fun _=>rfl) (fun _=>rfl) ?_) ?_; (focus (first | omega | (rw [List.length_map, words_len]; omega) | (rw [List.length_map]; show _ < 8; omega) | decide))) | (refine lin_v (D' := 8036282671) 32 (p_indexAddr_nat1 Tryz.underlying212 Tryz.sizeOf198 (fun _=>rfl) (fun _=>rfl) ?_) ?_; (focus (first | omega | (rw [List.length_map, words_len]; omega) | (rw [List.length_map]; show _ < 8; omega) | decide)))
    refine lin_r (D' := 16626217263) 33 rfl rfl rfl (by repeat (first | exact Has.here _ | apply Has.there)) (p_load Tryz.isAgg198 (fun _=>rfl) (by exact words_at htkW (by omega))) ?_
    refine lin_eff (l := [4]) (by kernel_rfl) (by kernel_rfl) ?_
    refine each_cons (m := 8) (D' := 16626217279) (is := [33, 28, 21, 15, 2]) (bs := [true, true, true, true, true]) (T' := [(33, (_, _)), (28, (_, _)), (21, (_, _)), (15, (_, _)), (2, (_, _))]) rfl (fun _=>rfl) rfl rfl rfl (by kernel_rfl) rfl (w_callR (vs := [_, _]) (fun _=>rfl) Tryz.call154 (fun _=>rfl) rfl (rrot_spec _ 6 (by decide) (by decide)) (by repeat (first | exact Pull.nil _ | (apply Pull.cons; (focus (repeat (first | exact One.here _ _ | apply One.there))))))) ?hk_14 (fun _ _ h => h.elim) ?hl_14
    case hk_14 =>
     rintro _ _ ⟨rfl, rfl⟩
     refine ⟨keep_cons (by repeat (first | exact Has.here _ | apply Has.there)) (keep_cons (by repeat (first | exact Has.here _ | apply Has.there)) (keep_cons (by repeat (first | exact Has.here _ | apply Has.there)) (keep_cons (by repeat (first | exact Has.here _ | apply Has.there)) (keep_cons (by repeat (first | exact Has.here _ | apply Has.there)) (keep_nil))))), ?_⟩
     refine lin_eff (l := [6]) (by kernel_rfl) (by kernel_rfl) ?_
     refine each_cons (m := 56) (D' := 16626217343) (is := [33, 28, 21, 15, 2]) (bs := [true, true, true, true, true]) (T' := [(33, (_, _)), (28, (_, _)), (21, (_, _)), (15, (_, _)), (2, (_, _))]) rfl (fun _=>rfl) rfl rfl rfl (by kernel_rfl) rfl (w_callR (vs := [_, _]) (fun _=>rfl) Tryz.call154 (fun _=>rfl) rfl (rrot_spec _ 11 (by decide) (by decide)) (by repeat (first | exact Pull.nil _ | (apply Pull.cons; (focus (repeat (first | exact One.here _ _ | apply One.there))))))) ?hk_15 (fun _ _ h => h.elim) ?hl_15
     case hk_15 =>
      rintro _ _ ⟨rfl, rfl⟩
      refine ⟨keep_cons (by repeat (first | exact Has.here _ | apply Has.there)) (keep_cons (by repeat (first | exact Has.here _ | apply Has.there)) (keep_cons (by repeat (first | exact Has.here _ | apply Has.there)) (keep_cons (by repeat (first | exact Has.here _ | apply Has.there)) (keep_cons (by repeat (first | exact Has.here _ | apply Has.there)) (keep_nil))))), ?_⟩
      refine lin_v (D' := 16626217471) 7 (p_xor_u32 (fun _=>rfl) (fun _=>rfl)) ?_
      refine lin_eff (l := [9]) (by kernel_rfl) (by kernel_rfl) ?_
      refine each_cons (m := 376) (D' := 16626217983) (is := [33, 28, 21, 15, 2]) (bs := [true, true, true, true, true]) (T' := [(33, (_, _)), (28, (_, _)), (21, (_, _)), (15, (_, _)), (2, (_, _))]) rfl (fun _=>rfl) rfl rfl rfl (by kernel_rfl) rfl (w_callR (vs := [_, _]) (fun _=>rfl) Tryz.call154 (fun _=>rfl) rfl (rrot_spec _ 25 (by decide) (by decide)) (by repeat (first | exact Pull.nil _ | (apply Pull.cons; (focus (repeat (first | exact One.here _ _ | apply One.there))))))) ?hk_16 (fun _ _ h => h.elim) ?hl_16
      case hk_16 =>
       rintro _ _ ⟨rfl, rfl⟩
       refine ⟨keep_cons (by repeat (first | exact Has.here _ | apply Has.there)) (keep_cons (by repeat (first | exact Has.here _ | apply Has.there)) (keep_cons (by repeat (first | exact Has.here _ | apply Has.there)) (keep_cons (by repeat (first | exact Has.here _ | apply Has.there)) (keep_cons (by repeat (first | exact Has.here _ | apply Has.there)) (keep_nil))))), ?_⟩
       refine lin_v (D' := 16626219007) 10 (p_xor_u32 (fun _=>rfl) (fun _=>rfl)) ?_
       refine lin_v (D' := 16626221055) 11 (p_add_u32 (fun _=>rfl) (fun _=>rfl)) ?_
       refine lin_v (D' := 16642998271) 24 (p_add_u32 (fun _=>rfl) (fun _=>rfl)) ?_
       refine lin_v (D' := 17179869183) 29 (p_add_u32 (fun _=>rfl) (fun _=>rfl)) ?_
       refine lin_v (D' := 34359738367) 34 (p_add_u32 (fun _=>rfl) (fun _=>rfl)) ?_
       refine lin_v (D' := 68719476735) 35 (p_assign (fun _=>rfl)) ?_
       refine lin_nil ?_
       refine nx_slots (env' := [(0, _), (5, _), (10, _), (11, _), (12, _), (13, _), (14, _), (15, _)]) [0, 5, 10, 11, 12, 13, 14, 15] rfl (fun _=>rfl) ?_
       refine nx_next ?_
       refine at_seq ?_
       refine at_draw (n := 29) (0 :: 1 :: 0 :: 7 :: 15 :: 0 :: 47 :: 127 :: 0 :: 0 :: 512 :: 1536 :: 3840 :: 0 :: 0 :: 16384 :: 49152 :: 122880 :: 261888 :: 0 :: 524288 :: 1572864 :: 0 :: 4194304 :: 12582912 :: 33030144 :: 67108608 :: 134217727 :: 268435455 :: []) 74 (by kernel_rfl) (by kernel_rfl) rfl ?_
       refine lin_v (D' := 1) 0 (p_move (fun _=>rfl)) ?_
       refine lin_v (D' := 5) 2 (p_move (fun _=>rfl)) ?_
       refine lin_v (D' := 37) 5 (p_move (fun _=>rfl)) ?_
       refine lin_v (D' := 293) 8 (p_move (fun _=>rfl)) ?_
       refine lin_v (D' := 805) 9 (p_move (fun _=>rfl)) ?_
       first | (refine lin_v (D' := 1829) 10 (p_indexAddr_nat0 (j := 1) Tryz.underlying212 Tryz.sizeOf198 (fun _=>rfl) (fun _=>rfl) ?_) ?_; (focus (first | omega | (rw [List.length_map, words_len]; omega) | (rw [List.length_map]; show _ < 8; omega) | decide))) | (refine lin_v (D' := 1829) 10 (p_indexAddr_nat1 (j := 1) Tryz.underlying212 Tryz.sizeOf198 (fun _=>rfl) (fun _=>rfl) ?_) ?_; (focus (first | omega | (rw [List.length_map, words_len]; omega) | (rw [List.length_map]; show _ < 8; omega) | decide)))
       refine lin_r (D' := 3877) 11 rfl rfl rfl (by repeat (first | exact Has.here _ | apply Has.there)) (p_load Tryz.isAgg198 (fun _=>rfl) (by exact v8_at htkr 1 (by decide))) ?_
       refine lin_v (D' := 7973) 12 (p_and_u32 (fun _=>rfl) (fun _=>rfl)) ?_
       refine lin_v (D' := 16165) 13 (p_move (fun _=>rfl)) ?_
       refine lin_v (D' := 32549) 14 (p_move (fun _=>rfl)) ?_
       first | (refine lin_v (D' := 65317) 15 (p_indexAddr_nat0 (j := 2) Tryz.underlying212 Tryz.sizeOf198 (fun _=>rfl) (fun _=>rfl) ?_) ?_; (focus (first | omega | (rw [List.length_map, words_len]; omega) | (rw [List.length_map]; show _ < 8; omega) | decide))) | (refine lin_v (D' := 65317) 15 (p_indexAddr_nat1 (j := 2) Tryz.underlying212 Tryz.sizeOf198 (fun _=>rfl) (fun _=>rfl) ?_) ?_; (focus (first | omega | (rw [List.length_map, words_len]; omega) | (rw [List.length_map]; show _ < 8; omega) | decide)))
       refine lin_r (D' := 130853) 16 rfl rfl rfl (by repeat (first | exact Has.here _ | apply Has.there)) (p_load Tryz.isAgg198 (fun _=>rfl) (by exact v8_at htkr 2 (by decide))) ?_
       refine lin_v (D' := 261925) 17 (p_and_u32 (fun _=>rfl) (fun _=>rfl)) ?_
       refine lin_v (D' := 524069) 18 (p_xor_u32 (fun _=>rfl) (fun _=>rfl)) ?_
       refine lin_v (D' := 1048357) 19 (p_move (fun _=>rfl)) ?_
       first | (refine lin_v (D' := 2096933) 20 (p_indexAddr_nat0 (j := 1) Tryz.underlying212 Tryz.sizeOf198 (fun _=>rfl) (fun _=>rfl) ?_) ?_; (focus (first | omega | (rw [List.length_map, words_len]; omega) | (rw [List.length_map]; show _ < 8; omega) | decide))) | (refine lin_v (D' := 2096933) 20 (p_indexAddr_nat1 (j := 1) Tryz.underlying212 Tryz.sizeOf198 (fun _=>rfl) (fun _=>rfl) ?_) ?_; (focus (first | omega | (rw [List.length_map, words_len]; omega) | (rw [List.length_map]; show _ < 8; omega) | decide)))
       refine lin_r (D' := 4194085) 21 rfl rfl rfl (by repeat (first | exact Has.here _ | apply Has.there)) (p_load Tryz.isAgg198 (fun _=>rfl) (by exact v8_at htkr 1 (by decide))) ?_
       refine lin_v (D' := 8388389) 22 (p_move (fun _=>rfl)) ?_
       first | (refine lin_v (D' := 16776997) 23 (p_indexAddr_nat0 (j := 2) Tryz.underlying212 Tryz.sizeOf198 (fun _=>rfl) (fun _=>rfl) ?_) ?_; (focus (first | omega | (rw [List.length_map, words_len]; omega) | (rw [List.length_map]; show _ < 8; omega) | decide))) | (refine lin_v (D' := 16776997) 23 (p_indexAddr_nat1 (j := 2) Tryz.underlying212 Tryz.sizeOf198 (fun _=>rfl) (fun _=>rfl) ?_) ?_; (focus (first | omega | (rw [List.length_map, words_len]; omega) | (rw [List.length_map]; show _ < 8; omega) | decide)))
       refine lin_r (D' := 33554213) 24 rfl rfl rfl (by repeat (first | exact Has.here _ | apply Has.there)) (p_load Tryz.isAgg198 (fun _=>rfl) (by exact v8_at htkr 2 (by decide))) ?_
       refine lin_v (D' := 67108645) 25 (p_and_u32 (fun _=>rfl) (fun _=>rfl)) ?_
       refine lin_v (D' := 134217509) 26 (p_xor_u32 (fun _=>rfl) (fun _=>rfl)) ?_
       refine lin_eff (l := [1]) (by kernel_rfl) (by kernel_rfl) ?_
       refine each_cons (m := 1) (D' := 134217511) (is := [24, 21, 16, 11]) (bs := [true, true, true, true]) (T' := [(24, (_, _)), (21, (_, _)), (16, (_, _)), (11, (_, _))]) rfl (fun _=>rfl) rfl rfl rfl (by kernel_rfl) rfl (w_callR (vs := [_, _]) (fun _=>rfl) Tryz.call154 (fun _=>rfl) rfl (rrot_spec _ 2 (by decide) (by decide)) (by repeat (first | exact Pull.nil _ | (apply Pull.cons; (focus (repeat (first | exact One.here _ _ | apply One.there))))))) ?hk_17 (fun _ _ h => h.elim) ?hl_17
       case hk_17 =>
        rintro _ _ ⟨rfl, rfl⟩
        refine ⟨keep_cons (by repeat (first | exact Has.here _ | apply Has.there)) (keep_cons (by repeat (first | exact Has.here _ | apply Has.there)) (keep_cons (by repeat (first | exact Has.here _ | apply Has.there)) (keep_cons (by repeat (first | exact Has.here _ | apply Has.there)) (keep_nil)))), ?_⟩
        refine lin_eff (l := [3]) (by kernel_rfl) (by kernel_rfl) ?_
        refine each_cons (m := 7) (D' := 134217519) (is := [24, 21, 16, 11]) (bs := [true, true, true, true]) (T' := [(24, (_, _)), (21, (_, _)), (16, (_, _)), (11, (_, _))]) rfl (fun _=>rfl) rfl rfl rfl (by kernel_rfl) rfl (w_callR (vs := [_, _]) (fun _=>rfl) Tryz.call154 (fun _=>rfl) rfl (rrot_spec _ 13 (by decide) (by decide)) (by repeat (first | exact Pull.nil _ | (apply Pull.cons; (focus (repeat (first | exact One.here _ _ | apply One.there))))))) ?hk_18 (fun _ _ h => h.elim) ?hl_18
        case hk_18 =>
         rintro _ _ ⟨rfl, rfl⟩
         refine ⟨keep_cons (by repeat (first | exact Has.here _ | apply Has.there)) (keep_cons (by repeat (first | exact Has.here _ | apply Has.there)) (keep_cons (by repeat (first | exact Has.here _ | apply Has.there)) (keep_cons (by repeat (first | exact Has.here _ | apply Has.there)) (keep_nil)))), ?_⟩
         refine lin_v (D' := 134217535) 4 (p_xor_u32 (fun _=>rfl) (fun _=>rfl)) ?_
         refine lin_eff (l := [6]) (by kernel_rfl) (by kernel_rfl) ?_
         refine each_cons (m := 47) (D' := 134217599) (is := [24, 21, 16, 11]) (bs := [true, true, true, true]) (T' := [(24, (_, _)), (21, (_, _)), (16, (_, _)), (11, (_, _))]) rfl (fun _=>rfl) rfl rfl rfl (by kernel_rfl) rfl (w_callR (vs := [_, _]) (fun _=>rfl) Tryz.call154 (fun _=>rfl) rfl (rrot_spec _ 22 (by decide) (by decide)) (by repeat (first | exact Pull.nil _ | (apply Pull.cons; (focus (repeat (first | exact One.here _ _ | apply One.there))))))) ?hk_19 (fun _ _ h => h.elim) ?hl_19
         case hk_19 =>
          rintro _ _ ⟨rfl, rfl⟩
          refine ⟨keep_cons (by repeat (first | exact Has.here _ | apply Has.there)) (keep_cons (by repeat (first | exact Has.here _ | apply Has.there)) (keep_cons (by repeat (first | exact Has.here _ | apply Has.there)) (keep_cons (by repeat (first | exact Has.here _ | apply Has.there)) (keep_nil)))), ?_⟩
          refine lin_v (D' := 134217727) 7 (p_xor_u32 (fun _=>rfl) (fun _=>rfl)) ?_
          refine lin_v (D' := 268435455) 27 (p_add_u32 (fun _=>rfl) (fun _=>rfl)) ?_
          refine lin_v (D' := 536870911) 28 (p_assign (fun _=>rfl)) ?_
          refine lin_nil ?_
          refine nx_slots (env' := [(0, _), (5, _), (10, _), (11, _), (12, _), (13, _), (14, _), (15, _), (16, _)]) [0, 5, 10, 11, 12, 13, 14, 15, 16] rfl (fun _=>rfl) ?_
          refine nx_next ?_
          refine at_draw (n := 24) (0 :: 0 :: 3 :: 0 :: 0 :: 16 :: 48 :: 0 :: 128 :: 384 :: 0 :: 1024 :: 3072 :: 0 :: 15360 :: 0 :: 0 :: 65536 :: 196608 :: 0 :: 524288 :: 1572864 :: 4194303 :: 8388607 :: []) 4194304 (by kernel_rfl) (by kernel_rfl) rfl ?_
          refine lin_v (D' := 1) 0 (p_move (fun _=>rfl)) ?_
          refine lin_v (D' := 3) 1 (p_move (fun _=>rfl)) ?_
          refine lin_v (D' := 7) 2 (p_add_u32 (fun _=>rfl) (fun _=>rfl)) ?_
          refine lin_v (D' := 15) 3 (p_move (fun _=>rfl)) ?_
          refine lin_v (D' := 31) 4 (p_move (fun _=>rfl)) ?_
          first | (refine lin_v (D' := 63) 5 (p_indexAddr_nat0 (j := 1) Tryz.underlying212 Tryz.sizeOf198 (fun _=>rfl) (fun _=>rfl) ?_) ?_; (focus (first | omega | (rw [List.length_map, words_len]; omega) | (rw [List.length_map]; show _ < 8; omega) | decide))) | (refine lin_v (D' := 63) 5 (p_indexAddr_nat1 (j := 1) Tryz.underlying212 Tryz.sizeOf198 (fun _=>rfl) (fun _=>rfl) ?_) ?_; (focus (first | omega | (rw [List.length_map, words_len]; omega) | (rw [List.length_map]; show _ < 8; omega) | decide)))
          refine lin_r (D' := 127) 6 rfl rfl rfl (by repeat (first | exact Has.here _ | apply Has.there)) (p_load Tryz.isAgg198 (fun _=>rfl) (by exact v8_at htkr 1 (by decide))) ?_
          refine lin_v (D' := 255) 7 (p_move (fun _=>rfl)) ?_
          first | (refine lin_v (D' := 511) 8 (p_indexAddr_nat0 (j := 2) Tryz.underlying212 Tryz.sizeOf198 (fun _=>rfl) (fun _=>rfl) ?_) ?_; (focus (first | omega | (rw [List.length_map, words_len]; omega) | (rw [List.length_map]; show _ < 8; omega) | decide))) | (refine lin_v (D' := 511) 8 (p_indexAddr_nat1 (j := 2) Tryz.underlying212 Tryz.sizeOf198 (fun _=>rfl) (fun _=>rfl) ?_) ?_; (focus (first | omega | (rw [List.length_map, words_len]; omega) | (rw [List.length_map]; show _ < 8; omega) | decide)))
          refine lin_r (D' := 1023) 9 rfl rfl rfl (by repeat (first | exact Has.here _ | apply Has.there)) (p_load Tryz.isAgg198 (fun _=>rfl) (by exact v8_at htkr 2 (by decide))) ?_
          refine lin_v (D' := 2047) 10 (p_move (fun _=>rfl)) ?_
          first | (refine lin_v (D' := 4095) 11 (p_indexAddr_nat0 (j := 3) Tryz.underlying212 Tryz.sizeOf198 (fun _=>rfl) (fun _=>rfl) ?_) ?_; (focus (first | omega | (rw [List.length_map, words_len]; omega) | (rw [List.length_map]; show _ < 8; omega) | decide))) | (refine lin_v (D' := 4095) 11 (p_indexAddr_nat1 (j := 3) Tryz.underlying212 Tryz.sizeOf198 (fun _=>rfl) (fun _=>rfl) ?_) ?_; (focus (first | omega | (rw [List.length_map, words_len]; omega) | (rw [List.length_map]; show _ < 8; omega) | decide)))
          refine lin_r (D' := 8191) 12 rfl rfl rfl (by repeat (first | exact Has.here _ | apply Has.there)) (p_load Tryz.isAgg198 (fun _=>rfl) (by exact v8_at htkr 3 (by decide))) ?_
          refine lin_v (D' := 16383) 13 (p_move (fun _=>rfl)) ?_
          refine lin_v (D' := 32767) 14 (p_add_u32 (fun _=>rfl) (fun _=>rfl)) ?_
          refine lin_v (D' := 65535) 15 (p_move (fun _=>rfl)) ?_
          refine lin_v (D' := 131071) 16 (p_move (fun _=>rfl)) ?_
          first | (refine lin_v (D' := 262143) 17 (p_indexAddr_nat0 (j := 5) Tryz.underlying212 Tryz.sizeOf198 (fun _=>rfl) (fun _=>rfl) ?_) ?_; (focus (first | omega | (rw [List.length_map, words_len]; omega) | (rw [List.length_map]; show _ < 8; omega) | decide))) | (refine lin_v (D' := 262143) 17 (p_indexAddr_nat1 (j := 5) Tryz.underlying212 Tryz.sizeOf198 (fun _=>rfl) (fun _=>rfl) ?_) ?_; (focus (first | omega | (rw [List.length_map, words_len]; omega) | (rw [List.length_map]; show _ < 8; omega) | decide)))
          refine lin_r (D' := 524287) 18 rfl rfl rfl (by repeat (first | exact Has.here _ | apply Has.there)) (p_load Tryz.isAgg198 (fun _=>rfl) (by exact v8_at htkr 5 (by decide))) ?_
          refine lin_v (D' := 1048575) 19 (p_move (fun _=>rfl)) ?_
          first | (refine lin_v (D' := 2097151) 20 (p_indexAddr_nat0 (j := 6) Tryz.underlying212 Tryz.sizeOf198 (fun _=>rfl) (fun _=>rfl) ?_) ?_; (focus (first | omega | (rw [List.length_map, words_len]; omega) | (rw [List.length_map]; show _ < 8; omega) | decide))) | (refine lin_v (D' := 2097151) 20 (p_indexAddr_nat1 (j := 6) Tryz.underlying212 Tryz.sizeOf198 (fun _=>rfl) (fun _=>rfl) ?_) ?_; (focus (first | omega | (rw [List.length_map, words_len]; omega) | (rw [List.length_map]; show _ < 8; omega) | decide)))
          refine lin_r (D' := 4194303) 21 rfl rfl rfl (by repeat (first | exact Has.here _ | apply Has.there)) (p_load Tryz.isAgg198 (fun _=>rfl) (by exact v8_at htkr 6 (by decide))) ?_
          refine lin_eff (l := [22]) (by kernel_rfl) (by kernel_rfl) ?_
          refine each_cons (m := 4194303) (D' := 8388607) (is := [21, 18, 12, 9, 6]) (bs := [false, false, false, false, false]) (T' := []) rfl (fun _=>rfl) rfl rfl rfl (by kernel_rfl) rfl (w_buildSlice (vs := [_, _, _, _, _, _, _, _]) (cs := [_, _, _, _, _, _, _, _]) Tryz.underlying212 Tryz.sizeOf198 Tryz.zeroValue198 (fun _=>rfl) rfl rfl rfl rfl rfl) ?hk_20 (fun _ _ h => h.elim) ?hl_20
          case hk_20 =>
           rintro _ _ ⟨b6, rfl, rfl⟩
           refine ⟨keep_nil, ?_⟩
           refine lin_v (D' := 16777215) 23 (p_assign (fun _=>rfl)) ?_
           refine lin_nil ?_
           refine nx_slots (env' := [(0, _), (5, _), (10, _), (11, _), (12, _)]) [0, 5, 10, 11, 12] rfl (fun _=>rfl) ?_
           refine nx_block_normal ?_
           refine nx_next ?_
           refine at_region ?_
           refine op_v (p_move (fun _=>rfl)) ?_
           first | (refine op_v (p_add_nat (n := 1) (fun _=>rfl) (fun _=>rfl) ?_) ?_; (focus (omega))) | (refine op_v (p_add (fun _=>rfl) (fun _=>rfl) (IntWalk.i64_in _ ?_)) ?_; (focus (omega)))
           refine op_v (p_assign (fun _=>rfl)) ?_
           refine ops_nil ?_
           refine nx_slots (env' := [(11, _), (12, _), (0, _), (5, _), (10, _)]) [11, 12, 0, 5, 10] rfl (fun _=>rfl) ?_
           refine nx_againB (e' := [(11, _), (12, _)]) (m := _) (H' := _) (by exact ⟨i + 1, _, _, rfl, ⟨by omega, by rw [round_vals bl hv i]; exact row_new _ _ _ 8 rfl (by decide)⟩, rfl, rfl⟩)
          case hl_20 =>
           exact each_nil
         case hl_19 =>
          exact each_nil
        case hl_18 =>
         exact each_nil
       case hl_17 =>
        exact each_nil
      case hl_16 =>
       exact each_nil
     case hl_15 =>
      exact each_nil
    case hl_14 =>
     exact each_nil
   ·
    have ei : i = 64 := by omega
    subst ei
    have htkx := htkr
    refine at_exit ?_
    refine nx_thru (by intro h; cases h) ?_
    refine nx_thru (by intro h; cases h) ?_
    refine nx_block_exit ?_
    refine nx_next ?_
    refine at_seq ?_
    refine at_region ?_
    refine op_v (p_assign (fun _=>rfl)) ?_
    refine ops_nil ?_
    refine nx_next ?_
    refine at_seq ?_
    refine at_seq ?_
    refine at_region ?_
    refine op_v (p_assign (fun _=>rfl)) ?_
    refine ops_nil ?_
    refine nx_next ?_
    refine at_block ?_
    refine at_nil ?_
    refine at_slots (env' := [(17, _), (18, _), (0, _), (11, _)]) [17, 18, 0, 11] rfl (fun _=>rfl) ?_
    refine at_loopB (e0 := [(17, _), (18, _)]) (H0 := _) (n := _) (fun m e H => ∃ (i : Nat) (v : Value) (sv : List Chunk), m = 8 - i ∧ (i ≤ 8 ∧ Row 198 v (((blockS hv bl).list.take i).map u32v) sv) ∧ e = [(17, v), (18, .int .i64 (i : Int))] ∧ H = [sv]) (by exact ⟨0, _, [], rfl, ⟨Nat.zero_le _, row_nil _⟩, rfl, rfl⟩) (by repeat (first | exact Pull.nil _ | (apply Pull.cons; (focus (repeat (first | exact One.here _ _ | apply One.there)))))) ?_
    rintro _ _ _ ⟨i, v, sv, rfl, ⟨hi, hro⟩, rfl, rfl⟩
    obtain ⟨gv, cv, rfl⟩ := hro.form
    have htl : ((blockS hv bl).list.take i).length ≤ i := List.length_take_le ..
    refine at_seq ?_
    refine at_seq ?_
    refine at_region ?_
    refine op_v (p_move (fun _=>rfl)) ?_
    first | refine op_v (p_lss_nat (n := 8) (fun _=>rfl) (fun _=>rfl)) ?_ | refine op_v (p_lss (fun _=>rfl) (fun _=>rfl)) ?_
    refine ops_nil ?_
    refine nx_next ?_
    first | refine at_if (fun _=>rfl) (fun hi8 => ?_) (fun hi8 => ?_) | refine at_if_bool (fun _=>rfl) (fun hi8 => ?_) (fun hi8 => ?_)
    ·
     refine at_skip ?_
     refine nx_next ?_
     refine at_seq ?_
     refine at_block ?_
     refine at_draw (n := 13) (0 :: 0 :: 0 :: 6 :: 14 :: 0 :: 0 :: 96 :: 224 :: 510 :: 1022 :: 2047 :: 4095 :: []) 3072 (by kernel_rfl) (by kernel_rfl) rfl ?_
     refine lin_v (D' := 1) 0 (p_move (fun _=>rfl)) ?_
     refine lin_v (D' := 3) 1 (p_move (fun _=>rfl)) ?_
     refine lin_v (D' := 7) 2 (p_move (fun _=>rfl)) ?_
     first | (refine lin_v (D' := 15) 3 (p_indexAddr_nat0 Tryz.underlying212 Tryz.sizeOf198 (fun _=>rfl) (fun _=>rfl) ?_) ?_; (focus (first | omega | (rw [List.length_map, words_len]; omega) | (rw [List.length_map]; show _ < 8; omega) | decide))) | (refine lin_v (D' := 15) 3 (p_indexAddr_nat1 Tryz.underlying212 Tryz.sizeOf198 (fun _=>rfl) (fun _=>rfl) ?_) ?_; (focus (first | omega | (rw [List.length_map, words_len]; omega) | (rw [List.length_map]; show _ < 8; omega) | decide)))
     refine lin_r (D' := 31) 4 rfl rfl rfl (by repeat (first | exact Has.here _ | apply Has.there)) (p_load Tryz.isAgg198 (fun _=>rfl) (by exact v8_at hh i (by omega))) ?_
     refine lin_v (D' := 63) 5 (p_move (fun _=>rfl)) ?_
     refine lin_v (D' := 127) 6 (p_move (fun _=>rfl)) ?_
     first | (refine lin_v (D' := 255) 7 (p_indexAddr_nat0 Tryz.underlying212 Tryz.sizeOf198 (fun _=>rfl) (fun _=>rfl) ?_) ?_; (focus (first | omega | (rw [List.length_map, words_len]; omega) | (rw [List.length_map]; show _ < 8; omega) | decide))) | (refine lin_v (D' := 255) 7 (p_indexAddr_nat1 Tryz.underlying212 Tryz.sizeOf198 (fun _=>rfl) (fun _=>rfl) ?_) ?_; (focus (first | omega | (rw [List.length_map, words_len]; omega) | (rw [List.length_map]; show _ < 8; omega) | decide)))
     refine lin_r (D' := 511) 8 rfl rfl rfl (by repeat (first | exact Has.here _ | apply Has.there)) (p_load Tryz.isAgg198 (fun _=>rfl) (by exact v8_at htkx i (by omega))) ?_
     refine lin_v (D' := 1023) 9 (p_add_u32 (fun _=>rfl) (fun _=>rfl)) ?_
     refine lin_eff (l := [10]) (by kernel_rfl) (by kernel_rfl) ?_
     refine each_cons (m := 1022) (D' := 2047) (is := [8, 4]) (bs := [false, false]) (T' := []) rfl (fun _=>rfl) rfl rfl rfl (by kernel_rfl) rfl (w_buildSlice (vs := [_]) (cs := [_]) Tryz.underlying212 Tryz.sizeOf198 Tryz.zeroValue198 (fun _=>rfl) rfl rfl rfl rfl rfl) ?hk_23 (fun _ _ h => h.elim) ?hl_23
     case hk_23 =>
      rintro _ _ ⟨b7, rfl, rfl⟩
      refine ⟨keep_nil, ?_⟩
      refine lin_eff (l := [11]) (by kernel_rfl) (by kernel_rfl) ?_
      refine each_cons (m := 2047) (D' := 4095) (is := []) (bs := []) (T' := []) rfl (fun _=>rfl) rfl rfl rfl (by kernel_rfl) rfl (w_append (by_ := 4) (news := [_]) Tryz.underlying212 (rfl : Tryz.prog.info? 198 = some Tryz.t198) rfl rfl rfl rfl (fun _=>rfl) hro (fun _=>rfl) (by repeat (first | exact One.here _ _ | apply One.there)) (by repeat (first | exact Has.here _ | apply Has.there)) (by rfl) rfl (by simp [Value.oneCell']) (by decide) (by (simp only [List.length_map]; omega)) (by (simp only [List.length_map]; omega))) ?hk_24 (fun _ _ h => h.elim) ?hl_24
      case hk_24 =>
       rintro _ _ ⟨sz, hrz, rfl⟩
       refine ⟨keep_nil, ?_⟩
       obtain ⟨gz, cz, rfl⟩ := hrz.form
       refine lin_v (D' := 8191) 12 (p_assign (fun _=>rfl)) ?_
       refine lin_nil ?_
       refine nx_slots (env' := [(0, _), (11, _), (17, _), (18, _)]) [0, 11, 17, 18] rfl (fun _=>rfl) ?_
       refine nx_block_normal ?_
       refine nx_next ?_
       refine at_region ?_
       refine op_v (p_move (fun _=>rfl)) ?_
       first | (refine op_v (p_add_nat (n := 1) (fun _=>rfl) (fun _=>rfl) ?_) ?_; (focus (omega))) | (refine op_v (p_add (fun _=>rfl) (fun _=>rfl) (IntWalk.i64_in _ ?_)) ?_; (focus (omega)))
       refine op_v (p_assign (fun _=>rfl)) ?_
       refine ops_nil ?_
       refine nx_slots (env' := [(17, _), (18, _), (0, _), (11, _)]) [17, 18, 0, 11] rfl (fun _=>rfl) ?_
       refine nx_againB (e' := [(17, _), (18, _)]) (m := _) (H' := _) (by exact ⟨i + 1, _, _, rfl, ⟨by omega, by rw [take_step u32v (blockS hv bl).list i 0 (by show i < 8; omega), blockS_get hv bl i (by omega)]; exact hrz⟩, rfl, rfl⟩)
      case hl_24 =>
       exact each_nil
     case hl_23 =>
      exact each_nil
    ·
     have ei : i = 8 := by omega
     subst ei
     refine at_exit ?_
     refine nx_thru (by intro h; cases h) ?_
     refine nx_thru (by intro h; cases h) ?_
     refine nx_block_exit ?_
     refine nx_next ?_
     refine at_seq ?_
     refine at_region ?_
     refine op_v (p_move (fun _=>rfl)) ?_
     refine op_v (p_assign (fun _=>rfl)) ?_
     refine ops_nil ?_
     refine nx_next ?_
     refine at_ret ?_
     refine nx_end1 (H' := _) rfl Tryz.results136 (fun _=>rfl) (by exact ⟨_, hro, rfl⟩)

end Go.Proofs.YtdahnapibeepkaaGreatDoor
