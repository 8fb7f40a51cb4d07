/- Contracts: digest.digest, slices.Chunk at 64 bytes. -/
import Derived.Test.YtddblcjcodejaaaDoorDg2
import Derived.Test.YtddblcjcodejaaaDoorEx6
namespace Go.Proofs.YtddblcjcodejaaaDoor
open Go Go.RowKit Gw
set_option linter.unusedVariables false
set_option maxRecDepth 100000
attribute [local irreducible] Gw.At Gw.Nx Gw.Ops
/-- n bytes of a row of N, zeros behind. -/
def padB (N : Nat) (l : List UInt8) : Array Value := (l.map u8v ++ List.replicate (N - l.length) (Value.int .u8 0)).toArray
theorem padB_set (N : Nat) (l : List UInt8) (x : UInt8) (k : Nat) (hk : k = l.length) (h : l.length < N) : (padB N l).setIfInBounds k (.int .u8 (x.toNat : Int)) = padB N (l ++ [x]) := by
  subst hk
  unfold padB
  rw [List.setIfInBounds_toArray]
  congr 1
  rw [List.set_append_right _ _ (by simp)]
  simp only [List.length_map, Nat.sub_self, List.length_append, List.length_cons, List.length_nil]
  obtain ⟨n, hn⟩ : ∃ n, N - l.length = n + 1 := ⟨N - 1 - l.length, by omega⟩
  rw [hn, show N - (l.length + (0 + 1)) = n by omega]
  simp [List.replicate_succ, u8v]
theorem padB_size (N : Nat) (l : List UInt8) (h : l.length ≤ N) : (padB N l).size = N := by simp [padB]; omega
theorem padB_full (N : Nat) (l : List UInt8) (h : l.length = N) : (padB N l).toList = l.map u8v := by simp [padB, h]
def outP (v : V8) (i k : Nat) : List UInt8 := (v.list.take i).flatMap out32 ++ (out32 (v.list.getD i 0)).take k
theorem out32_len (x : UInt32) : (out32 x).length = 4 := rfl
theorem outP_len (v : V8) (i k : Nat) (hi : i < 8) (hk : k ≤ 4) : (outP v i k).length = 4 * i + k := by
  have : i = 0 ∨ i = 1 ∨ i = 2 ∨ i = 3 ∨ i = 4 ∨ i = 5 ∨ i = 6 ∨ i = 7 := by omega
  rcases this with rfl | rfl | rfl | rfl | rfl | rfl | rfl | rfl <;> simp [outP, V8.list, out32] <;> omega
theorem outP_next (v : V8) (i : Nat) (hi : i < 8) : outP v (i + 1) 0 = outP v i 4 := by
  have : i = 0 ∨ i = 1 ∨ i = 2 ∨ i = 3 ∨ i = 4 ∨ i = 5 ∨ i = 6 ∨ i = 7 := by omega
  rcases this with rfl | rfl | rfl | rfl | rfl | rfl | rfl | rfl <;> rfl
theorem outP_step (v : V8) (i k : Nat) (hk : k < 4) : outP v i (k + 1) = outP v i k ++ [((v.list.getD i 0) >>> UInt32.ofNat (24 - 8 * k)).toUInt8] := by
  have : k = 0 ∨ k = 1 ∨ k = 2 ∨ k = 3 := by omega
  unfold outP
  generalize v.list.getD i 0 = x
  rcases this with rfl | rfl | rfl | rfl
  · simp [out32]
  · simp [out32]
  · simp [out32]
  · have e : x >>> UInt32.ofNat (24 - 8 * 3) = x := by
      apply UInt32.toNat_inj.1
      simp [UInt32.toNat_shiftRight]
    rw [e]; simp [out32]
theorem outS_eq (v : V8) : outP v 8 0 = outS v := rfl
theorem v8c_get1 (y : V8) (i : Nat) (h : i < 8) : (v8c y)[i * 1]? = some (u32v (y.list.getD i 0)) := by rw [Nat.mul_one]; exact v8_get y i h

theorem digest_spec (v : V8) : DoesR Tryd.prog 80 #[.agg (v8c v)] [] (.string (str (outS v))) := by
  refine spec_enter Tryd.func80 rfl Tryd.ntmps80 rfl ?_
  intro u R
  refine at_slots (env' := [(0, _)]) [0] rfl (fun _ => rfl) ?_
  refine at_seq ?_
  refine at_region ?_
  refine op_e (w_box (fun _ => rfl) (cs := (v8c v)) (by kernel_rfl)) (fun _ => rfl) rfl rfl ?_
  rintro _ _ ⟨b1, rfl, rfl⟩
  refine op_w (p_assign (fun _ => rfl)) rfl rfl ?_
  refine ops_nil ?_
  refine nx_slots (env' := [(1, _)]) [1] rfl (fun _ => rfl) ?_
  refine nx_next ?_
  refine at_seq ?_
  refine at_region ?_
  refine op_e (w_alloc Tryd.zeroValue151 (cs := (padB 32 [])) (by kernel_rfl)) (fun _ => rfl) rfl rfl ?_
  rintro _ _ ⟨bo, rfl, rfl⟩
  refine ops_nil ?_
  refine nx_slots (env' := [(1, _), (3, _)]) [1, 3] rfl (fun _ => rfl) ?_
  refine nx_next ?_
  refine at_seq ?_
  refine at_seq ?_
  refine at_region ?_
  refine op_r (by repeat (first | exact Has.here _ | apply Has.there)) (p_load_agg (cs := v8c v) Tryd.isAgg139 Tryd.sizeOf139 (fun _ => rfl) (by first | omega | exact Nat.le_refl _) (by exact extract_all _ _ rfl)) rfl rfl ?_
  refine op_w (p_move (fun _ => rfl)) rfl rfl ?_
  refine ops_nil ?_
  refine nx_slots (env' := [(3, _), (7, _), (8, _)]) [3, 7, 8] rfl (fun _ => rfl) ?_
  refine nx_next ?_
  refine at_block ?_
  refine at_slots (env' := [(8, _), (3, _), (7, _)]) [8, 3, 7] rfl (fun _ => rfl) ?_
  refine at_loopB (e0 := [(8, _)]) (H0 := _) (n := _) (fun m e H => ∃ i : Nat, m = 8 - i ∧ (i ≤ 8) ∧ e = [(8, .int .i64 (i : Int))] ∧ H = [[(bo, .cells (padB 32 (outP v i 0)) 151 (0, 0))]]) (by exact ⟨0, rfl, Nat.zero_le _, rfl, rfl⟩) (by repeat (first | exact Pull.nil _ | (apply Pull.cons; (focus (repeat (first | exact One.here _ _ | apply One.there)))))) ?_
  rintro _ _ _ ⟨i, rfl, hi, rfl, rfl⟩
  refine at_seq ?_
  refine at_region ?_
  first | refine op_w (p_lss_nat (n := 8) (fun _ => rfl) (fun _ => rfl)) rfl rfl ?_ | refine op_w (p_lss (fun _ => rfl) (fun _ => rfl)) rfl rfl ?_
  refine ops_nil ?_
  refine nx_slots (env' := [(3, _), (7, _), (8, _), (9, _)]) [3, 7, 8, 9] rfl (fun _ => rfl) ?_
  refine nx_next ?_
  refine at_seq ?_
  first | refine at_if (fun _ => rfl) (fun hc1 => ?_) (fun hc1 => ?_) | refine at_if_bool (fun _ => rfl) (fun hc1 => ?_) (fun hc1 => ?_)
  ·
    refine at_skip ?_
    refine nx_next ?_
    refine at_seq ?_
    refine at_block ?_
    refine at_seq ?_
    refine at_region ?_
    refine op_w (p_move (fun _ => rfl)) rfl rfl ?_
    refine op_w (p_index_arr Tryd.underlying139 Tryd.isAgg137 Tryd.sizeOf137 (fun _ => rfl) (fun _ => rfl) (by first | omega | exact Nat.le_refl _) (by exact v8c_get1 v i (by omega))) rfl rfl ?_
    refine op_w (p_assign (fun _ => rfl)) rfl rfl ?_
    refine op_w (p_assign (fun _ => rfl)) rfl rfl ?_
    refine ops_nil ?_
    refine nx_slots (env' := [(3, _), (4, _), (5, _), (7, _), (8, _)]) [3, 4, 5, 7, 8] rfl (fun _ => rfl) ?_
    refine nx_next ?_
    refine at_seq ?_
    refine at_region ?_
    refine op_w (p_move (fun _ => rfl)) rfl rfl ?_
    refine ops_nil ?_
    refine nx_slots (env' := [(3, _), (4, _), (5, _), (7, _), (8, _), (12, _)]) [3, 4, 5, 7, 8, 12] rfl (fun _ => rfl) ?_
    refine nx_next ?_
    refine at_block ?_
    refine at_slots (env' := [(12, _), (3, _), (4, _), (5, _), (7, _), (8, _)]) [12, 3, 4, 5, 7, 8] rfl (fun _ => rfl) ?_
    refine at_loopB (e0 := [(12, _)]) (H0 := _) (n := _) (fun m e H => ∃ k : Nat, m = 4 - k ∧ (k ≤ 4) ∧ e = [(12, .int .i64 (k : Int))] ∧ H = [[(bo, .cells (padB 32 (outP v i k)) 151 (0, 0))]]) (by exact ⟨0, rfl, Nat.zero_le _, rfl, rfl⟩) (by repeat (first | exact Pull.nil _ | (apply Pull.cons; (focus (repeat (first | exact One.here _ _ | apply One.there)))))) ?_
    rintro _ _ _ ⟨k, rfl, hk, rfl, rfl⟩
    refine at_seq ?_
    refine at_region ?_
    first | refine op_w (p_lss_nat (n := 4) (fun _ => rfl) (fun _ => rfl)) rfl rfl ?_ | refine op_w (p_lss (fun _ => rfl) (fun _ => rfl)) rfl rfl ?_
    refine ops_nil ?_
    refine nx_slots (env' := [(3, _), (4, _), (5, _), (7, _), (8, _), (12, _), (13, _)]) [3, 4, 5, 7, 8, 12, 13] rfl (fun _ => rfl) ?_
    refine nx_next ?_
    refine at_seq ?_
    first | refine at_if (fun _ => rfl) (fun hc2 => ?_) (fun hc2 => ?_) | refine at_if_bool (fun _ => rfl) (fun hc2 => ?_) (fun hc2 => ?_)
    ·
      refine at_skip ?_
      refine nx_next ?_
      refine at_seq ?_
      refine at_block ?_
      refine at_seq ?_
      refine at_region ?_
      refine op_w (p_move (fun _ => rfl)) rfl rfl ?_
      refine op_w (p_assign (fun _ => rfl)) rfl rfl ?_
      refine ops_nil ?_
      refine nx_slots (env' := [(3, _), (4, _), (5, _), (6, _), (7, _), (8, _), (12, _)]) [3, 4, 5, 6, 7, 8, 12] rfl (fun _ => rfl) ?_
      refine nx_next ?_
      refine at_region ?_
      refine op_w (p_move (fun _ => rfl)) rfl rfl ?_
      first | (refine op_w (p_mul_nat (m := 4) (fun _ => rfl) (fun _ => rfl) ?_) rfl rfl ?_; (focus (omega))) | (refine op_w (p_mul (fun _ => rfl) (fun _ => rfl) (IntWalk.i64_in _ ?_)) rfl rfl ?_; (focus (omega)))
      refine op_w (p_move (fun _ => rfl)) rfl rfl ?_
      first | (refine op_w (p_add_nat (fun _ => rfl) (fun _ => rfl) ?_) rfl rfl ?_; (focus (omega))) | (refine op_w (p_add (fun _ => rfl) (fun _ => rfl) (IntWalk.i64_in _ ?_)) rfl rfl ?_; (focus (omega)))
      refine op_w (p_move (fun _ => rfl)) rfl rfl ?_
      refine op_w (p_move (fun _ => rfl)) rfl rfl ?_
      first | (refine op_w (p_mul_nat (m := 8) (fun _ => rfl) (fun _ => rfl) ?_) rfl rfl ?_; (focus (omega))) | (refine op_w (p_mul (fun _ => rfl) (fun _ => rfl) (IntWalk.i64_in _ ?_)) rfl rfl ?_; (focus (omega)))
      first | (refine op_w (p_sub_nat (m := 24) (fun _ => rfl) (fun _ => rfl) ?_ ?_) rfl rfl ?_; (focus (omega)); (focus (omega))) | (refine op_w (p_sub (fun _ => rfl) (fun _ => rfl) (IntWalk.i64_in _ ?_)) rfl rfl ?_; (focus (omega)))
      (refine op_w (p_shr_u32 (fun _ => rfl) (fun _ => rfl) ?_) rfl rfl ?_; (focus (omega)))
      first | refine op_w (p_conv_u32_u8 Tryd.underlying137 Tryd.underlying5 (fun _ => rfl)) rfl rfl ?_ | (refine op_w (p_conv_nat_u8 Tryd.underlying137 Tryd.underlying5 (fun _ => rfl) ?_) rfl rfl ?_; (focus (omega))) | (refine op_w (p_conv_int Tryd.underlying137 Tryd.underlying5 (fun _ => rfl) (IntWalk.u8_in _ ?_)) rfl rfl ?_; (focus (omega)))
      first | (refine op_w (p_indexAddr_arr0 Tryd.underlying151 Tryd.sizeOf5 (fun _ => rfl) (fun _ => rfl) ?_) rfl rfl ?_; (focus (first | omega | (rw [padB_size _ _ (by rw [outP_len _ _ _ (by omega) (by omega)]; omega)]; omega)))) | (refine op_w (p_indexAddr_arr Tryd.underlying151 Tryd.sizeOf5 (fun _ => rfl) (fun _ => rfl) ?_) rfl rfl ?_; (focus (first | omega | (rw [padB_size _ _ (by rw [outP_len _ _ _ (by omega) (by omega)]; omega)]; omega))))
      refine op_e (w_store Tryd.sizeOf5 (fun _ => rfl) (fun _ => rfl) rfl (by repeat (first | exact Upd.here _ | apply Upd.there)) (by exact (padB_set 32 (outP v i k) _ _ (by rw [outP_len _ _ _ (by omega) (by omega)]) (by rw [outP_len _ _ _ (by omega) (by omega)]; omega)).trans (congrArg (padB 32) (outP_step v i k (by omega)).symm)) (by first | omega | (rw [padB_size _ _ (by rw [outP_len _ _ _ (by omega) (by omega)]; omega)]; omega)) (by exact free_zero _)) (fun _ => rfl) rfl rfl ?_
      rintro _ _ ⟨rfl, rfl⟩
      refine ops_nil ?_
      refine nx_slots (env' := [(3, _), (4, _), (5, _), (7, _), (8, _), (12, _)]) [3, 4, 5, 7, 8, 12] rfl (fun _ => rfl) ?_
      refine nx_block_normal ?_
      refine nx_next ?_
      refine at_region ?_
      first | (refine op_w (p_add_nat (n := 1) (fun _ => rfl) (fun _ => rfl) ?_) rfl rfl ?_; (focus (omega))) | (refine op_w (p_add (fun _ => rfl) (fun _ => rfl) (IntWalk.i64_in _ ?_)) rfl rfl ?_; (focus (omega)))
      refine op_w (p_move (fun _ => rfl)) rfl rfl ?_
      refine ops_nil ?_
      refine nx_slots (env' := [(3, _), (4, _), (5, _), (7, _), (8, _), (12, _)]) [3, 4, 5, 7, 8, 12] rfl (fun _ => rfl) ?_
      refine nx_slots (env' := [(12, _), (3, _), (4, _), (5, _), (7, _), (8, _)]) [12, 3, 4, 5, 7, 8] rfl (fun _ => rfl) ?_
      refine nx_againB (e' := [(12, _)]) (m := _) (H' := _) (by exact ⟨k + 1, rfl, by omega, rfl, rfl⟩) ?hm_3 ?hp_3
      case hm_3 => omega
      case hp_3 => repeat (first | exact Sub.refl _ | exact Sub.nil _ | refine Sub.cons (by repeat (first | exact One.here _ _ | apply One.there)) ?_ | refine Sub.drop _ ?_)
    ·
      have ek : k = 4 := by omega
      subst ek
      refine at_exit ?_
      refine nx_thru (by intro h; cases h) ?_
      refine nx_thru (by intro h; cases h) ?_
      refine nx_block_exit ?_
      refine nx_block_normal ?_
      refine nx_next ?_
      refine at_region ?_
      first | (refine op_w (p_add_nat (n := 1) (fun _ => rfl) (fun _ => rfl) ?_) rfl rfl ?_; (focus (omega))) | (refine op_w (p_add (fun _ => rfl) (fun _ => rfl) (IntWalk.i64_in _ ?_)) rfl rfl ?_; (focus (omega)))
      refine op_w (p_move (fun _ => rfl)) rfl rfl ?_
      refine ops_nil ?_
      refine nx_slots (env' := [(3, _), (7, _), (8, _)]) [3, 7, 8] rfl (fun _ => rfl) ?_
      refine nx_slots (env' := [(8, _), (3, _), (7, _)]) [8, 3, 7] rfl (fun _ => rfl) ?_
      refine nx_againB (e' := [(8, _)]) (m := _) (H' := _) (by exact ⟨i + 1, rfl, by omega, rfl, by rw [outP_next v i (by omega)]⟩) ?hm_4 ?hp_4
      case hm_4 => omega
      case hp_4 => repeat (first | exact Sub.refl _ | exact Sub.nil _ | refine Sub.cons (by repeat (first | exact One.here _ _ | apply One.there)) ?_ | refine Sub.drop _ ?_)
  ·
    have ei : i = 8 := by omega
    subst ei
    refine at_exit ?_
    refine nx_thru (by intro h; cases h) ?_
    refine nx_thru (by intro h; cases h) ?_
    refine nx_block_exit ?_
    refine nx_next ?_
    refine at_seq ?_
    refine at_region ?_
    refine op_w (p_slice_arr_all Tryd.underlying151 Tryd.sizeOf5 (fun _ => rfl)) rfl rfl ?_
    refine op_r (by repeat (first | exact Has.here _ | apply Has.there)) (p_conv_bytes_str Tryd.underlying38 Tryd.underlying5 Tryd.underlying9 (fun _ => rfl) (by exact ⟨(by rw [padB_full 32 (outP v 8 0) (by rw [outS_eq]; rfl)]; exact List.take_of_length_le (by rw [List.drop_zero, List.length_map, outS_eq]; exact Nat.le_refl 32)), rfl⟩)) rfl rfl ?_
    refine op_w (p_assign (fun _ => rfl)) rfl rfl ?_
    refine ops_nil ?_
    refine nx_slots (env' := [(2, _)]) [2] rfl (fun _ => rfl) ?_
    refine nx_next ?_
    refine at_ret ?_
    refine nx_end1 (H' := _) rfl Tryd.results80 (fun _ => rfl) (by exact ⟨rfl, rfl⟩) ?hp_5
    case hp_5 => repeat (first | exact Sub.refl _ | exact Sub.nil _ | refine Sub.cons (by repeat (first | exact One.here _ _ | apply One.there)) ?_ | refine Sub.drop _ ?_)

end Go.Proofs.YtddblcjcodejaaaDoor
