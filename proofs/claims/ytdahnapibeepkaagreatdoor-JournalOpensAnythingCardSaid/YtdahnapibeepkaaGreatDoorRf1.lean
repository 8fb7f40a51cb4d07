/- The reference of chapter 2. -/
import Derived.Test.YtdahnapibeepkaaGreatDoorDg5
import Derived.Test.YtdahnapibeepkaaGreatDoorEx11
namespace Go.Proofs.YtdahnapibeepkaaGreatDoor
open Go Go.RowKit Gw
set_option linter.unusedVariables false
set_option maxRecDepth 100000
attribute [local irreducible] Gw.At Gw.Nx Gw.Ops
theorem rot_ref (x : UInt32) (n m : Nat) (h0 : 0 < n) (h1 : n < 32) (hm : n + m = 32) : (x >>> UInt32.ofNat n) ||| (x <<< UInt32.ofNat m) = rotr x (UInt32.ofNat n) := by
  rw [UInt32.or_comm]; exact rot_lemma x n m h0 h1 hm
theorem mix_two (x a b : UInt32) : mixL x [a, b] = rotr x a ^^^ rotr x b := by simp [mixL]
theorem mix_three (x a b c : UInt32) : mixL x [a, b, c] = rotr x a ^^^ rotr x b ^^^ rotr x c := by simp [mixL]
theorem words_map (b : List UInt8) (k : Nat) (x : UInt32) (h : words b (k + 1) = words b k ++ [x]) : (words b (k + 1)).map u32v = (words b k).map u32v ++ [u32v x] := by rw [h, List.map_append]; rfl
theorem row_at {e : TypeId} {v : Value} {l : List UInt32} {g cap : Nat} {cur : Array Value} (htk : cur.toList.take (l.map u32v).length = l.map u32v) (i : Nat) (h : i < l.length) : cur[i]? = some (u32v (l.getD i 0)) := by
  have h1 : (cur.toList.take (l.map u32v).length)[i]? = (l.map u32v)[i]? := by rw [htk]
  rw [List.length_map, List.getElem?_take, if_pos h, Array.getElem?_toList, List.getElem?_map, List.getElem?_eq_getElem h] at h1
  rw [h1]
  simp [List.getD_eq_getElem?_getD, List.getElem?_eq_getElem h]

theorem rrot_spec (x : UInt32) (n : Nat) (h0 : 0 < n) (h1 : n < 32) : DoesR Tryz.prog 154 #[.int .u32 (x.toNat : Int), .int .i64 (n : Int)] [] (.int .u32 ((rotr x (UInt32.ofNat n)).toNat : Int)) := by
 refine spec_enter Tryz.func154 rfl Tryz.ntmps154 rfl ?_
 intro u R
 refine at_slots (env' := [(0, _), (1, _)]) [0, 1] rfl (fun _=>rfl) ?_
 refine at_seq ?_
 refine at_region ?_
 refine op_v (p_assign (fun _=>rfl)) ?_
 refine ops_nil ?_
 refine nx_slots (env' := [(0, _), (1, _)]) [0, 1] rfl (fun _=>rfl) ?_
 refine nx_next ?_
 refine at_seq ?_
 refine at_draw (n := 9) (0 :: 0 :: 3 :: 0 :: 0 :: 16 :: 56 :: 127 :: 255 :: []) 0 (by kernel_rfl) (by kernel_rfl) rfl ?_
 refine lin_w (D' := 1) 0 rfl rfl rfl (p_move (fun _=>rfl)) ?_
 refine lin_w (D' := 3) 1 rfl rfl rfl (p_move (fun _=>rfl)) ?_
 (refine lin_w (D' := 7) 2 rfl rfl rfl (p_shr_u32 (fun _=>rfl) (fun _=>rfl) ?_) ?_; (focus (omega)))
 refine lin_w (D' := 15) 3 rfl rfl rfl (p_move (fun _=>rfl)) ?_
 refine lin_w (D' := 31) 4 rfl rfl rfl (p_move (fun _=>rfl)) ?_
 first | (refine lin_w (D' := 63) 5 rfl rfl rfl (p_sub_nat (m := 32) (fun _=>rfl) (fun _=>rfl) ?_ ?_) ?_; (focus (omega)); (focus (omega))) | (refine lin_w (D' := 63) 5 rfl rfl rfl (p_sub (fun _=>rfl) (fun _=>rfl) (IntWalk.i64_in _ ?_)) ?_; (focus (omega)))
 (refine lin_w (D' := 127) 6 rfl rfl rfl (p_shl_u32 (fun _=>rfl) (fun _=>rfl) ?_) ?_; (focus (omega)))
 refine lin_w (D' := 255) 7 rfl rfl rfl (p_or_u32 (fun _=>rfl) (fun _=>rfl)) ?_
 refine lin_w (D' := 511) 8 rfl rfl rfl (p_assign (fun _=>rfl)) ?_
 refine lin_nil ?_
 refine nx_slots (env' := [(4, _)]) [4] rfl (fun _=>rfl) ?_
 refine nx_next ?_
 refine at_ret ?_
 refine nx_end1 (H' := _) rfl Tryz.results154 (fun _=>rfl) (by exact ⟨by rw [rot_ref x n (32 - n) h0 h1 (by omega)], rfl⟩) ?hp_1
 case hp_1 => repeat (first | exact Sub.refl _ | exact Sub.nil _ | (apply Sub.cons; (focus (repeat (first | exact One.here _ _ | apply One.there)))) | refine Sub.drop _ ?_)

theorem rconst_spec : Does Tryz.prog 155 #[] [] (fun r H' => ∃ g, r = .slice (some ⟨g, 0, none⟩) 64 64 ∧ H' = [[(g, .cells (kTab.map u32v).toArray 198 (0, 0))]]) := by
 refine spec_enter Tryz.func155 rfl Tryz.ntmps155 rfl ?_
 intro u R
 refine at_slots (env' := []) [] rfl (fun _=>rfl) ?_
 refine at_seq ?_
 refine at_region ?_
 refine op_v (p_assign (fun _=>rfl)) ?_
 refine ops_nil ?_
 refine nx_slots (env' := []) [] rfl (fun _=>rfl) ?_
 refine nx_next ?_
 refine at_seq ?_
 refine at_region ?_
 refine op_e (w_buildSlice (vs := [_, _, _, _, _, _, _, _, _, _, _, _, _, _, _, _, _, _, _, _, _, _, _, _, _, _, _, _, _, _, _, _, _, _, _, _, _, _, _, _, _, _, _, _, _, _, _, _, _, _, _, _, _, _, _, _, _, _, _, _, _, _, _, _]) (cs := [_, _, _, _, _, _, _, _, _, _, _, _, _, _, _, _, _, _, _, _, _, _, _, _, _, _, _, _, _, _, _, _, _, _, _, _, _, _, _, _, _, _, _, _, _, _, _, _, _, _, _, _, _, _, _, _, _, _, _, _, _, _, _, _]) Tryz.underlying212 Tryz.sizeOf198 Tryz.zeroValue198 (fun _=>rfl) rfl rfl rfl rfl rfl) (fun _=>rfl) rfl rfl ?_
 rintro _ _ ⟨g, rfl, rfl⟩
 refine op_v (p_assign (fun _=>rfl)) ?_
 refine ops_nil ?_
 refine nx_slots (env' := [(0, _)]) [0] rfl (fun _=>rfl) ?_
 refine nx_next ?_
 refine at_ret ?_
 refine nx_end1 (H' := _) rfl Tryz.results155 (fun _=>rfl) (by exact ⟨g, rfl, rfl⟩) ?hp_1
 case hp_1 => repeat (first | exact Sub.refl _ | exact Sub.nil _ | (apply Sub.cons; (focus (repeat (first | exact One.here _ _ | apply One.there)))) | refine Sub.drop _ ?_)

theorem rext_spec (l : List UInt8) (hs : l.length ≤ 1099511627776) : Does Tryz.prog 135 #[.string (str l)] [] (fun r H' => ∃ sv, Row 5 r ((padded l).map u8v) sv ∧ H' = [sv]) := by
 have hml : maxLen = 9223372036854775807 := rfl
 have hn := str_size l
 have hz : zpad l.length < 64 := by unfold zpad; omega
 refine spec_enter Tryz.func135 rfl Tryz.ntmps135 rfl ?_
 intro u R
 refine at_slots (env' := [(0, _)]) [0] rfl (fun _=>rfl) ?_
 refine at_seq ?_
 refine at_region ?_
 refine op_v (p_assign (fun _=>rfl)) ?_
 refine ops_nil ?_
 refine nx_slots (env' := [(0, _)]) [0] rfl (fun _=>rfl) ?_
 refine nx_next ?_
 refine at_seq ?_
 refine at_region ?_
 refine op_v (p_assign (fun _=>rfl)) ?_
 refine ops_nil ?_
 refine nx_slots (env' := [(0, _), (3, _)]) [0, 3] rfl (fun _=>rfl) ?_
 refine nx_next ?_
 refine at_seq ?_
 refine at_seq ?_
 refine at_region ?_
 refine op_v (p_assign (fun _=>rfl)) ?_
 refine ops_nil ?_
 refine nx_slots (env' := [(0, _), (3, _), (4, _)]) [0, 3, 4] rfl (fun _=>rfl) ?_
 refine nx_next ?_
 refine at_block ?_
 refine at_nil ?_
 refine at_slots (env' := [(3, _), (4, _), (0, _)]) [3, 4, 0] rfl (fun _=>rfl) ?_
 refine at_loopB (e0 := [(3, _), (4, _)]) (H0 := _) (n := _) (fun m e H => ∃ (i : Nat) (v : Value) (sv : List Chunk), m = l.length - i ∧ (i ≤ l.length ∧ Row 5 v ((l.take i).map u8v) sv) ∧ e = [(3, v), (4, .int .i64 (i : Int))] ∧ H = [sv]) (by exact ⟨0, _, [], rfl, ⟨Nat.zero_le _, row_nil _⟩, rfl, rfl⟩) (by repeat (first | exact Pull.nil _ | (apply Pull.cons; (focus (repeat (first | exact One.here _ _ | apply One.there)))))) ?_
 rintro _ _ _ ⟨i, v, sv, rfl, ⟨hi, hrv⟩, rfl, rfl⟩
 obtain ⟨gv, cv, rfl⟩ := hrv.form
 have htl : (l.take i).length ≤ i := List.length_take_le ..
 refine at_seq ?_
 refine at_seq ?_
 refine at_region ?_
 refine op_v (p_move (fun _=>rfl)) ?_
 refine op_v (p_move (fun _=>rfl)) ?_
 refine op_v (p_len_str Tryz.underlying9 (fun _=>rfl)) ?_
 first | refine op_v (p_lss_nat (fun _=>rfl) (fun _=>rfl)) ?_ | refine op_v (p_lss (fun _=>rfl) (fun _=>rfl)) ?_
 refine ops_nil ?_
 refine nx_slots (env' := [(0, _), (3, _), (4, _), (9, _)]) [0, 3, 4, 9] rfl (fun _=>rfl) ?_
 refine nx_next ?_
 first | refine at_if (fun _=>rfl) (fun hlt => ?_) (fun hlt => ?_) | refine at_if_bool (fun _=>rfl) (fun hlt => ?_) (fun hlt => ?_)
 ·
  refine at_skip ?_
  refine nx_next ?_
  refine at_seq ?_
  refine at_block ?_
  have hby : byteAt (str l) i = l.getD i 0 := by simp [byteAt, str]
  refine at_region ?_
  refine op_v (p_move (fun _=>rfl)) ?_
  refine op_v (p_move (fun _=>rfl)) ?_
  refine op_v (p_move (fun _=>rfl)) ?_
  (refine op_v (p_index_str Tryz.underlying9 (fun _=>rfl) (fun _=>rfl) (byteAt_get _ _ ?_)) ?_; (focus (omega)))
  refine op_e (w_buildSlice (vs := [_]) (cs := [_]) Tryz.underlying39 Tryz.sizeOf5 Tryz.zeroValue5 (fun _=>rfl) rfl rfl rfl rfl rfl) (fun _=>rfl) rfl rfl ?_
  rintro _ _ ⟨b1, rfl, rfl⟩
  refine op_e (w_append (by_ := 1) (news := [_]) Tryz.underlying39 (rfl : Tryz.prog.info? 5 = some Tryz.t5) rfl rfl rfl rfl (fun _=>rfl) hrv (fun _=>rfl) (by repeat (first | exact One.here _ _ | apply One.there)) (by repeat (first | exact Has.here _ | apply Has.there)) (by rfl) rfl (by simp [Value.oneCell']) (by decide) (by (simp only [List.length_map, hn]; omega)) (by (simp only [List.length_map, hn]; omega))) (fun _=>rfl) rfl rfl ?_
  rintro _ _ ⟨sq, hrq, rfl⟩
  obtain ⟨gq, cq, rfl⟩ := hrq.form
  refine op_v (p_assign (fun _=>rfl)) ?_
  refine ops_nil ?_
  refine nx_slots (env' := [(0, _), (3, _), (4, _)]) [0, 3, 4] rfl (fun _=>rfl) ?_
  refine nx_block_normal ?_
  refine nx_next ?_
  refine at_region ?_
  refine op_v (p_move (fun _=>rfl)) ?_
  first | (refine op_v (p_add_nat (n := 1) (fun _=>rfl) (fun _=>rfl) ?_) ?_; (focus (omega))) | (refine op_v (p_add (fun _=>rfl) (fun _=>rfl) (IntWalk.i64_in _ ?_)) ?_; (focus (omega)))
  refine op_v (p_assign (fun _=>rfl)) ?_
  refine ops_nil ?_
  refine nx_slots (env' := [(0, _), (3, _), (4, _)]) [0, 3, 4] rfl (fun _=>rfl) ?_
  refine nx_slots (env' := [(3, _), (4, _), (0, _)]) [3, 4, 0] rfl (fun _=>rfl) ?_
  refine nx_againB (e' := [(3, _), (4, _)]) (m := _) (H' := _) (by exact ⟨i + 1, _, _, rfl, ⟨by omega, by rw [take_step u8v l i 0 (by omega), ← hby]; exact hrq⟩, rfl, rfl⟩) ?hm_2 ?hp_2
  case hm_2 => omega
  case hp_2 => repeat (first | exact Sub.refl _ | exact Sub.nil _ | (apply Sub.cons; (focus (repeat (first | exact One.here _ _ | apply One.there)))) | refine Sub.drop _ ?_)
 ·
  have ei : l.take i = l := List.take_of_length_le (by omega)
  rw [ei] at hrv ⊢
  refine at_exit ?_
  refine nx_thru (by intro h; cases h) ?_
  refine nx_thru (by intro h; cases h) ?_
  refine nx_block_exit ?_
  refine nx_next ?_
  refine at_seq ?_
  refine at_region ?_
  refine op_v (p_move (fun _=>rfl)) ?_
  refine op_e (w_buildSlice (vs := [_]) (cs := [_]) Tryz.underlying39 Tryz.sizeOf5 Tryz.zeroValue5 (fun _=>rfl) rfl rfl rfl rfl rfl) (fun _=>rfl) rfl rfl ?_
  rintro _ _ ⟨b3, rfl, rfl⟩
  refine op_e (w_append (by_ := 1) (news := [_]) Tryz.underlying39 (rfl : Tryz.prog.info? 5 = some Tryz.t5) rfl rfl rfl rfl (fun _=>rfl) hrv (fun _=>rfl) (by repeat (first | exact One.here _ _ | apply One.there)) (by repeat (first | exact Has.here _ | apply Has.there)) (by rfl) rfl (by simp [Value.oneCell']) (by decide) (by (simp only [List.length_map, hn]; omega)) (by (simp only [List.length_map, hn]; omega))) (fun _=>rfl) rfl rfl ?_
  rintro _ _ ⟨sw, hrw, rfl⟩
  obtain ⟨gw, cw, rfl⟩ := hrw.form
  refine op_v (p_assign (fun _=>rfl)) ?_
  refine ops_nil ?_
  refine nx_slots (env' := [(0, _), (3, _)]) [0, 3] rfl (fun _=>rfl) ?_
  refine nx_next ?_
  refine at_seq ?_
  refine at_block ?_
  have hr0 : (padZ l 0).map u8v = List.map u8v l ++ [Value.int IntKind.u8 128] := by simp [padZ, u8v]
  refine at_slots (env' := [(3, _), (0, _)]) [3, 0] rfl (fun _=>rfl) ?_
  refine at_loopB (e0 := [(3, _)]) (H0 := _) (n := _) (fun m e H => ∃ (k : Nat) (v : Value) (sv : List Chunk), m = zpad l.length - k ∧ (k ≤ zpad l.length ∧ Row 5 v ((padZ l k).map u8v) sv) ∧ e = [(3, v)] ∧ H = [sv]) (by exact ⟨0, _, _, rfl, ⟨Nat.zero_le _, by rw [hr0]; exact hrw⟩, rfl, rfl⟩) (by repeat (first | exact Pull.nil _ | (apply Pull.cons; (focus (repeat (first | exact One.here _ _ | apply One.there)))))) ?_
  rintro _ _ _ ⟨k, v, sv, rfl, ⟨hk, hrv⟩, rfl, rfl⟩
  obtain ⟨gv, cv, rfl⟩ := hrv.form
  refine at_seq ?_
  refine at_seq ?_
  refine at_region ?_
  refine op_v (p_move (fun _=>rfl)) ?_
  refine op_v (p_len_slice Tryz.underlying39 (fun _=>rfl)) ?_
  first | (refine op_v (p_rem_nat (n := 64) (fun _=>rfl) (fun _=>rfl) ?_) ?_; (focus (omega))) | (refine op_v (p_rem (fun _=>rfl) (fun _=>rfl) ?_ rfl) ?_; (focus (omega)))
  first | refine op_v (p_neq_nat (n := 56) (fun _=>rfl) (fun _=>rfl)) ?_ | refine op_v (p_neq (fun _=>rfl) (fun _=>rfl)) ?_
  refine ops_nil ?_
  refine nx_slots (env' := [(0, _), (3, _), (24, _)]) [0, 3, 24] rfl (fun _=>rfl) ?_
  refine nx_next ?_
  first | refine at_if (fun _=>rfl) (fun hlen => ?_) (fun hlen => ?_) | refine at_if_bool (fun _=>rfl) (fun hlen => ?_) (fun hlen => ?_)
  ·
   rw [List.length_map, padZ_len] at hlen
   have hk2 := zpad_lt _ _ hk hlen
   refine at_skip ?_
   refine nx_next ?_
   refine at_block ?_
   refine at_region ?_
   refine op_v (p_move (fun _=>rfl)) ?_
   refine op_e (w_buildSlice (vs := [_]) (cs := [_]) Tryz.underlying39 Tryz.sizeOf5 Tryz.zeroValue5 (fun _=>rfl) rfl rfl rfl rfl rfl) (fun _=>rfl) rfl rfl ?_
   rintro _ _ ⟨b5, rfl, rfl⟩
   refine op_e (w_append (by_ := 1) (news := [_]) Tryz.underlying39 (rfl : Tryz.prog.info? 5 = some Tryz.t5) rfl rfl rfl rfl (fun _=>rfl) hrv (fun _=>rfl) (by repeat (first | exact One.here _ _ | apply One.there)) (by repeat (first | exact Has.here _ | apply Has.there)) (by rfl) rfl (by simp [Value.oneCell']) (by decide) (by (simp only [List.length_map, padZ_len]; omega)) (by (simp only [List.length_map, padZ_len]; omega))) (fun _=>rfl) rfl rfl ?_
   rintro _ _ ⟨sc, hrc, rfl⟩
   obtain ⟨gc, cc, rfl⟩ := hrc.form
   refine op_v (p_assign (fun _=>rfl)) ?_
   refine ops_nil ?_
   refine nx_slots (env' := [(0, _), (3, _)]) [0, 3] rfl (fun _=>rfl) ?_
   refine nx_block_normal ?_
   refine nx_slots (env' := [(3, _), (0, _)]) [3, 0] rfl (fun _=>rfl) ?_
   refine nx_againB (e' := [(3, _)]) (m := _) (H' := _) (by exact ⟨k + 1, _, _, rfl, ⟨hk2, by rw [← padZ_step]; exact hrc⟩, rfl, rfl⟩) ?hm_4 ?hp_4
   case hm_4 => omega
   case hp_4 => repeat (first | exact Sub.refl _ | exact Sub.nil _ | (apply Sub.cons; (focus (repeat (first | exact One.here _ _ | apply One.there)))) | refine Sub.drop _ ?_)
  ·
   rw [List.length_map, padZ_len] at hlen
   have ek := zpad_eq _ _ hk (by omega)
   subst ek
   refine at_exit ?_
   refine nx_thru (by intro h; cases h) ?_
   refine nx_thru (by intro h; cases h) ?_
   refine nx_block_exit ?_
   refine nx_next ?_
   refine at_seq ?_
   refine at_seq ?_
   refine at_region ?_
   refine op_v (p_assign (fun _=>rfl)) ?_
   refine ops_nil ?_
   refine nx_slots (env' := [(0, _), (3, _), (5, _)]) [0, 3, 5] rfl (fun _=>rfl) ?_
   refine nx_next ?_
   refine at_block ?_
   refine at_slots (env' := [(3, _), (5, _), (0, _)]) [3, 5, 0] rfl (fun _=>rfl) ?_
   refine at_loopB (e0 := [(3, _), (5, _)]) (H0 := _) (n := _) (fun m e H => ∃ (j : Nat) (i : Int) (v : Value) (sv : List Chunk), m = 8 - j ∧ (j ≤ 8 ∧ i = 7 - (j : Int) ∧ Row 5 v ((padL l j).map u8v) sv) ∧ e = [(3, v), (5, .int .i64 i)] ∧ H = [sv]) (by exact ⟨0, _, _, _, rfl, ⟨Nat.zero_le _, rfl, by rw [padL_zero]; exact hrv⟩, rfl, rfl⟩) (by repeat (first | exact Pull.nil _ | (apply Pull.cons; (focus (repeat (first | exact One.here _ _ | apply One.there)))))) ?_
   rintro _ _ _ ⟨j, i, v, sv, rfl, ⟨hj, hi, hrv⟩, rfl, rfl⟩
   obtain ⟨gv, cv, rfl⟩ := hrv.form
   refine at_seq ?_
   refine at_seq ?_
   refine at_region ?_
   refine op_v (p_move (fun _=>rfl)) ?_
   first | refine op_v (p_geq_nat (n := 0) (fun _=>rfl) (fun _=>rfl)) ?_ | refine op_v (p_geq (fun _=>rfl) (fun _=>rfl)) ?_
   refine ops_nil ?_
   refine nx_slots (env' := [(0, _), (3, _), (5, _), (29, _)]) [0, 3, 5, 29] rfl (fun _=>rfl) ?_
   refine nx_next ?_
   first | refine at_if (fun _=>rfl) (fun hi0 => ?_) (fun hi0 => ?_) | refine at_if_bool (fun _=>rfl) (fun hi0 => ?_) (fun hi0 => ?_)
   ·
    obtain ⟨q, rfl⟩ := Int.eq_ofNat_of_zero_le hi0
    refine at_skip ?_
    refine nx_next ?_
    refine at_seq ?_
    refine at_block ?_
    refine at_region ?_
    refine op_v (p_move (fun _=>rfl)) ?_
    refine op_v (p_move (fun _=>rfl)) ?_
    refine op_v (p_len_str Tryz.underlying9 (fun _=>rfl)) ?_
    first | (refine op_v (p_mul_nat (m := 8) (fun _=>rfl) (fun _=>rfl) ?_) ?_; (focus (omega))) | (refine op_v (p_mul (fun _=>rfl) (fun _=>rfl) (IntWalk.i64_in _ ?_)) ?_; (focus (omega)))
    refine op_v (p_move (fun _=>rfl)) ?_
    first | (refine op_v (p_mul_nat (m := 8) (fun _=>rfl) (fun _=>rfl) ?_) ?_; (focus (omega))) | (refine op_v (p_mul (fun _=>rfl) (fun _=>rfl) (IntWalk.i64_in _ ?_)) ?_; (focus (omega)))
    first | (refine op_v (p_shr_nat (fun _=>rfl) (fun _=>rfl) ?_) ?_; (focus (first | decide | (simp [IntKind.bits]; done) | (simp [IntKind.bits]; omega)))) | (refine op_v (p_shr (fun _=>rfl) (fun _=>rfl) ?_ ?_ rfl) ?_; (focus (first | decide | omega | (simp [IntKind.bits]; done) | (simp [IntKind.bits]; omega))); (focus (first | decide | omega | (simp [IntKind.bits]; done) | (simp [IntKind.bits]; omega))))
    refine op_w (p_conv_int Tryz.underlying3 Tryz.underlying5 (fun _=>rfl) (lenByte _)) rfl rfl ?_
    refine op_e (w_buildSlice (vs := [_]) (cs := [_]) Tryz.underlying39 Tryz.sizeOf5 Tryz.zeroValue5 (fun _=>rfl) rfl rfl rfl rfl rfl) (fun _=>rfl) rfl rfl ?_
    rintro _ _ ⟨b7, rfl, rfl⟩
    refine op_e (w_append (by_ := 1) (news := [_]) Tryz.underlying39 (rfl : Tryz.prog.info? 5 = some Tryz.t5) rfl rfl rfl rfl (fun _=>rfl) hrv (fun _=>rfl) (by repeat (first | exact One.here _ _ | apply One.there)) (by repeat (first | exact Has.here _ | apply Has.there)) (by rfl) rfl (by simp [Value.oneCell']) (by decide) (by (simp only [List.length_map, padL_len l j hj]; omega)) (by (simp only [List.length_map, padL_len l j hj]; omega))) (fun _=>rfl) rfl rfl ?_
    rintro _ _ ⟨sd, hrd, rfl⟩
    obtain ⟨gd, cd, rfl⟩ := hrd.form
    refine op_v (p_assign (fun _=>rfl)) ?_
    refine ops_nil ?_
    refine nx_slots (env' := [(0, _), (3, _), (5, _)]) [0, 3, 5] rfl (fun _=>rfl) ?_
    refine nx_block_normal ?_
    refine nx_next ?_
    refine at_region ?_
    refine op_v (p_move (fun _=>rfl)) ?_
    first | (refine op_v (p_sub_nat (n := 1) (fun _=>rfl) (fun _=>rfl) ?_ ?_) ?_; (focus (omega)); (focus (omega))) | (refine op_v (p_sub (fun _=>rfl) (fun _=>rfl) (IntWalk.i64_in _ ?_)) ?_; (focus (omega)))
    refine op_v (p_assign (fun _=>rfl)) ?_
    refine ops_nil ?_
    refine nx_slots (env' := [(0, _), (3, _), (5, _)]) [0, 3, 5] rfl (fun _=>rfl) ?_
    refine nx_slots (env' := [(3, _), (5, _), (0, _)]) [3, 5, 0] rfl (fun _=>rfl) ?_
    refine nx_againB (e' := [(3, _), (5, _)]) (m := _) (H' := _) (by exact ⟨j + 1, _, _, _, rfl, ⟨by omega, by omega, by rw [← padL_step l j q (by omega)]; exact hrd⟩, rfl, rfl⟩) ?hm_6 ?hp_6
    case hm_6 => omega
    case hp_6 => repeat (first | exact Sub.refl _ | exact Sub.nil _ | (apply Sub.cons; (focus (repeat (first | exact One.here _ _ | apply One.there)))) | refine Sub.drop _ ?_)
   ·
    have ej : j = 8 := by omega
    subst ej
    rw [padL_full] at hrv ⊢
    refine at_exit ?_
    refine nx_thru (by intro h; cases h) ?_
    refine nx_thru (by intro h; cases h) ?_
    refine nx_block_exit ?_
    refine nx_next ?_
    refine at_seq ?_
    refine at_region ?_
    refine op_v (p_move (fun _=>rfl)) ?_
    refine op_v (p_assign (fun _=>rfl)) ?_
    refine ops_nil ?_
    refine nx_slots (env' := [(2, _)]) [2] rfl (fun _=>rfl) ?_
    refine nx_next ?_
    refine at_ret ?_
    refine nx_end1 (H' := _) rfl Tryz.results135 (fun _=>rfl) (by exact ⟨_, hrv, rfl⟩) ?hp_7
    case hp_7 => repeat (first | exact Sub.refl _ | exact Sub.nil _ | (apply Sub.cons; (focus (repeat (first | exact One.here _ _ | apply One.there)))) | refine Sub.drop _ ?_)

end Go.Proofs.YtdahnapibeepkaaGreatDoor
