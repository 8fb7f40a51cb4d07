/- Contracts: the reference of layer 1: zigzag, PutInt, PutString at numbers that are not negative. -/
import Derived.Test.YtddblcjcodejaaaDoorLw2
namespace Go.Proofs.YtddblcjcodejaaaDoor
open Go Go.RowKit Gw
set_option linter.unusedVariables false
set_option maxRecDepth 100000
attribute [local irreducible] Gw.At Gw.Nx Gw.Ops
theorem zz_nat (n : Nat) : zz (n : Int) = 2 * n := by unfold zz; rw [if_neg (by omega)]; omega

theorem rzig_spec (n : Nat) (h2 : n ≤ 4611686018427387903) : DoesR Tryd.prog 50 #[.int .i64 (n : Int)] [] (.int .u64 ((zz (n : Int) : Nat) : Int)) := by
  refine spec_enter Tryd.func50 rfl Tryd.ntmps50 rfl ?_
  intro u R
  refine at_slots (env' := [(0, _)]) [0] rfl (fun _ => rfl) ?_
  refine at_seq ?_
  refine at_region ?_
  refine op_w (p_assign (fun _ => rfl)) rfl rfl ?_
  refine ops_nil ?_
  refine nx_slots (env' := [(0, _)]) [0] rfl (fun _ => rfl) ?_
  refine nx_next ?_
  refine at_seq ?_
  refine at_seq ?_
  refine at_region ?_
  refine op_w (p_move (fun _ => rfl)) rfl rfl ?_
  first | refine op_w (p_lss_nat (n := 0) (fun _ => rfl) (fun _ => rfl)) rfl rfl ?_ | refine op_w (p_lss (fun _ => rfl) (fun _ => rfl)) rfl rfl ?_
  refine ops_nil ?_
  refine nx_slots (env' := [(0, _), (4, _)]) [0, 4] rfl (fun _ => rfl) ?_
  refine nx_next ?_
  first | refine at_if (fun _ => rfl) (fun hc1 => ?_) (fun hc1 => ?_) | refine at_if_bool (fun _ => rfl) (fun hc1 => ?_) (fun hc1 => ?_)
  ·
    exfalso; omega
  ·
    refine at_skip ?_
    refine nx_next ?_
    refine at_seq ?_
    refine at_region ?_
    refine op_w (p_move (fun _ => rfl)) rfl rfl ?_
    first | (refine op_w (p_conv_nat_u64 Tryd.underlying3 Tryd.underlying90 (fun _ => rfl) ?_) rfl rfl ?_; (focus (omega))) | refine op_w (p_conv_int Tryd.underlying3 Tryd.underlying90 (fun _ => rfl) rfl) rfl rfl ?_
    first | (refine op_w (p_mul_nat_u64 (n := 2) (fun _ => rfl) (fun _ => rfl) ?_) rfl rfl ?_; (focus (omega))) | refine op_w (p_mul (fun _ => rfl) (fun _ => rfl) rfl) rfl rfl ?_
    refine op_w (p_assign (fun _ => rfl)) rfl rfl ?_
    refine ops_nil ?_
    refine nx_slots (env' := [(2, _)]) [2] rfl (fun _ => rfl) ?_
    refine nx_next ?_
    refine at_ret ?_
    refine nx_end1 (H' := _) rfl Tryd.results50 (fun _ => rfl) (by exact ⟨by rw [zz_nat]; congr 1; omega, rfl⟩) ?hp_1
    case hp_1 => repeat (first | exact Sub.refl _ | exact Sub.nil _ | (apply Sub.cons; (focus (repeat (first | exact One.here _ _ | apply One.there)))) | refine Sub.drop _ ?_)

theorem rputInt_spec (n : Nat) (h2 : n ≤ 4611686018427387903) : DoesR Tryd.prog 27 #[.int .i64 (n : Int)] [] (.tuple #[.string (str (encI (n : Int))), .int .i64 0]) := by
  have hml : maxLen = 9223372036854775807 := rfl
  have hzl := zz_lt (n : Int) (by omega) (by omega)
  have hgl := encI_len (n : Int) (by omega) (by omega)
  unfold encI at hgl
  rw [List.length_map] at hgl
  refine spec_enter Tryd.func27 rfl Tryd.ntmps27 rfl ?_
  intro u R
  refine at_slots (env' := [(0, _)]) [0] rfl (fun _ => rfl) ?_
  refine at_seq ?_
  refine at_region ?_
  refine op_w (p_assign (fun _ => rfl)) rfl rfl ?_
  refine op_w (p_assign (fun _ => rfl)) rfl rfl ?_
  refine ops_nil ?_
  refine nx_slots (env' := [(0, _)]) [0] rfl (fun _ => rfl) ?_
  refine nx_next ?_
  refine at_seq ?_
  refine at_seq ?_
  refine at_region ?_
  refine op_w (p_move (fun _ => rfl)) rfl rfl ?_
  refine op_w (p_lss (fun _ => rfl) (fun _ => rfl)) rfl rfl ?_
  refine op_w (p_move (fun _ => rfl)) rfl rfl ?_
  first | refine ops_split (t := 8) (fun _ => rfl) rfl (fun hc1 => ?_) (fun hc1 => ?_) | refine ops_split_bool (t := 8) (fun _ => rfl) rfl (fun hc1 => ?_) (fun hc1 => ?_)
  ·
    exfalso; omega
  ·
    refine op_wg (fun _ => rfl) (p_move (fun _ => rfl)) rfl rfl ?_
    refine op_wg (fun _ => rfl) (p_gtr (fun _ => rfl) (fun _ => rfl)) rfl rfl ?_
    refine op_w (p_pick_f (fun _ => rfl) (fun _ => rfl)) rfl rfl ?_
    refine ops_nil ?_
    refine nx_slots (env' := [(0, _), (11, _)]) [0, 11] rfl (fun _ => rfl) ?_
    refine nx_next ?_
    first | refine at_if (fun _ => rfl) (fun hc2 => ?_) (fun hc2 => ?_) | refine at_if_bool (fun _ => rfl) (fun hc2 => ?_) (fun hc2 => ?_)
    ·
      exfalso; omega
    ·
      refine at_skip ?_
      refine nx_next ?_
      refine at_seq ?_
      refine at_region ?_
      refine op_w (p_move (fun _ => rfl)) rfl rfl ?_
      refine op_e (w_callR (vs := [_]) (fun _ => rfl) Tryd.call50 (fun _ => rfl) rfl (rzig_spec n h2) (by repeat (first | exact Pull.nil _ | (apply Pull.cons; (focus (repeat (first | exact One.here _ _ | apply One.there))))))) (fun _ => rfl) rfl rfl ?_
      rintro _ _ ⟨rfl, rfl⟩
      refine op_w (p_assign (fun _ => rfl)) rfl rfl ?_
      refine ops_nil ?_
      refine nx_slots (env' := [(4, _)]) [4] rfl (fun _ => rfl) ?_
      refine nx_next ?_
      refine at_seq ?_
      refine at_region ?_
      refine op_w (p_assign (fun _ => rfl)) rfl rfl ?_
      refine ops_nil ?_
      refine nx_slots (env' := [(4, _), (5, _)]) [4, 5] rfl (fun _ => rfl) ?_
      refine nx_next ?_
      refine at_seq ?_
      refine at_block ?_
      refine at_nil ?_
      refine at_slots (env' := [(4, _), (5, _)]) [4, 5] rfl (fun _ => rfl) ?_
      refine at_loopB (e0 := [(4, _), (5, _)]) (H0 := _) (n := _) (fun m e H => ∃ (pre : List (Nat × Bool)) (y : Nat) (v : Value) (sv : List Chunk), m = 0 + y ∧ (grps (zz (n : Int)) = pre ++ grps y ∧ y < 9223372036854775808 ∧ Row 5 v ((pre.map gb).map u8v) sv) ∧ e = [(4, .int .u64 (y : Int)), (5, v)] ∧ H = [sv]) (by exact ⟨[], zz (n : Int), _, [], rfl, ⟨rfl, hzl, row_nil _⟩, rfl, rfl⟩) (by repeat (first | exact Pull.nil _ | (apply Pull.cons; (focus (repeat (first | exact One.here _ _ | apply One.there)))))) ?_
      rintro _ _ _ ⟨pre, y, v, sv, rfl, ⟨hsp, hy, hrv⟩, rfl, rfl⟩
      have hpl := congrArg List.length hsp
      rw [List.length_append, grps_eq y, List.length_cons] at hpl
      obtain ⟨gv, cv, rfl⟩ := hrv.form
      refine at_seq ?_
      refine at_seq ?_
      refine at_region ?_
      refine op_w (p_move (fun _ => rfl)) rfl rfl ?_
      first | refine op_w (p_geq_nat (n := 128) (fun _ => rfl) (fun _ => rfl)) rfl rfl ?_ | refine op_w (p_geq (fun _ => rfl) (fun _ => rfl)) rfl rfl ?_
      refine ops_nil ?_
      refine nx_slots (env' := [(4, _), (5, _), (15, _)]) [4, 5, 15] rfl (fun _ => rfl) ?_
      refine nx_next ?_
      first | refine at_if (fun _ => rfl) (fun hge => ?_) (fun hge => ?_) | refine at_if_bool (fun _ => rfl) (fun hge => ?_) (fun hge => ?_)
      ·
        refine at_skip ?_
        refine nx_next ?_
        refine at_block ?_
        refine at_seq ?_
        refine at_region ?_
        refine op_w (p_move (fun _ => rfl)) rfl rfl ?_
        refine op_w (p_move (fun _ => rfl)) rfl rfl ?_
        refine op_w (p_rem (m := (y : Int)) (n := 128) (c := ((y % 128 : Nat) : Int)) (fun _ => rfl) (fun _ => rfl) (by decide) (by rw [Int.tmod_eq_emod_of_nonneg (by omega)]; rfl)) rfl rfl ?_
        first | (refine op_w (p_add_nat_u64 (n := 128) (fun _ => rfl) (fun _ => rfl) ?_) rfl rfl ?_; (focus (omega))) | refine op_w (p_add (fun _ => rfl) (fun _ => rfl) rfl) rfl rfl ?_
        first | refine op_w (p_conv_u64_u8 Tryd.underlying90 Tryd.underlying5 (fun _ => rfl)) rfl rfl ?_ | (refine op_w (p_conv_nat_u8 Tryd.underlying90 Tryd.underlying5 (fun _ => rfl) ?_) rfl rfl ?_; (focus (omega))) | (refine op_w (p_conv_int Tryd.underlying90 Tryd.underlying5 (fun _ => rfl) (IntWalk.u8_in _ ?_)) rfl rfl ?_; (focus (omega)))
        refine op_e (w_buildSlice (vs := [_]) (cs := [_]) Tryd.underlying38 Tryd.sizeOf5 Tryd.zeroValue5 (fun _ => rfl) rfl rfl rfl rfl rfl) (fun _ => rfl) rfl rfl ?_
        rintro _ _ ⟨b1, rfl, rfl⟩
        refine op_e (w_append (by_ := 1) (news := [_]) Tryd.underlying38 (rfl : Tryd.prog.info? 5 = some Tryd.t5) rfl rfl rfl rfl (fun _ => rfl) hrv (fun _ => rfl) (by repeat (first | exact One.here _ _ | apply One.there)) (by repeat (first | exact Has.here _ | apply Has.there)) (by rfl) rfl (by simp [Value.oneCell']) (by decide) (by (simp only [List.length_map]; omega)) (by (simp only [List.length_map]; omega))) (fun _ => rfl) rfl rfl ?_
        rintro _ _ ⟨sq, hrq, rfl⟩
        obtain ⟨gq, cq, rfl⟩ := hrq.form
        refine op_w (p_assign (fun _ => rfl)) rfl rfl ?_
        refine ops_nil ?_
        refine nx_slots (env' := [(4, _), (5, _)]) [4, 5] rfl (fun _ => rfl) ?_
        refine nx_next ?_
        refine at_region ?_
        refine op_w (p_move (fun _ => rfl)) rfl rfl ?_
        refine op_w (p_quo (m := (y : Int)) (n := 128) (c := ((y / 128 : Nat) : Int)) (fun _ => rfl) (fun _ => rfl) (by decide) (by rw [Int.tdiv_eq_ediv_of_nonneg (by omega), IntKind.wrap_u64]; omega)) rfl rfl ?_
        refine op_w (p_assign (fun _ => rfl)) rfl rfl ?_
        refine ops_nil ?_
        refine nx_slots (env' := [(4, _), (5, _)]) [4, 5] rfl (fun _ => rfl) ?_
        refine nx_block_normal ?_
        refine nx_slots (env' := [(4, _), (5, _)]) [4, 5] rfl (fun _ => rfl) ?_
        refine nx_againB (e' := [(4, _), (5, _)]) (m := _) (H' := _) (by
              exact ⟨pre ++ [(y % 128, false)], y / 128, _, _, rfl, ⟨by rw [hsp, grps_eq y, if_neg (by omega), decide_eq_false (by omega)]; simp, by omega, by
                have hgv := gb_val (y % 128, false) (Nat.mod_lt _ (by decide))
                rw [List.map_append, List.map_append, List.map_singleton, List.map_singleton, hgv]; exact hrq⟩, rfl, rfl⟩) ?hm_2 ?hp_2
        case hm_2 => omega
        case hp_2 => repeat (first | exact Sub.refl _ | exact Sub.nil _ | (apply Sub.cons; (focus (repeat (first | exact One.here _ _ | apply One.there)))) | refine Sub.drop _ ?_)
      ·
        have hfin : (grps (zz (n : Int))).map gb = pre.map gb ++ [gb (y, true)] := by rw [hsp, grps_eq y, if_pos (by omega), decide_eq_true (by omega), Nat.mod_eq_of_lt (by omega)]; simp
        have hgv := gb_val (y, true) (by show y < 128; omega)
        refine at_exit ?_
        refine nx_thru (by intro h; cases h) ?_
        refine nx_thru (by intro h; cases h) ?_
        refine nx_block_exit ?_
        refine nx_next ?_
        refine at_seq ?_
        refine at_region ?_
        refine op_w (p_move (fun _ => rfl)) rfl rfl ?_
        refine op_w (p_move (fun _ => rfl)) rfl rfl ?_
        first | refine op_w (p_conv_u64_u8 Tryd.underlying90 Tryd.underlying5 (fun _ => rfl)) rfl rfl ?_ | (refine op_w (p_conv_nat_u8 Tryd.underlying90 Tryd.underlying5 (fun _ => rfl) ?_) rfl rfl ?_; (focus (omega))) | (refine op_w (p_conv_int Tryd.underlying90 Tryd.underlying5 (fun _ => rfl) (IntWalk.u8_in _ ?_)) rfl rfl ?_; (focus (omega)))
        refine op_e (w_buildSlice (vs := [_]) (cs := [_]) Tryd.underlying38 Tryd.sizeOf5 Tryd.zeroValue5 (fun _ => rfl) rfl rfl rfl rfl rfl) (fun _ => rfl) rfl rfl ?_
        rintro _ _ ⟨b3, rfl, rfl⟩
        refine op_e (w_append (by_ := 1) (news := [_]) Tryd.underlying38 (rfl : Tryd.prog.info? 5 = some Tryd.t5) rfl rfl rfl rfl (fun _ => rfl) hrv (fun _ => rfl) (by repeat (first | exact One.here _ _ | apply One.there)) (by repeat (first | exact Has.here _ | apply Has.there)) (by rfl) rfl (by simp [Value.oneCell']) (by decide) (by (simp only [List.length_map]; omega)) (by (simp only [List.length_map]; omega))) (fun _ => rfl) rfl rfl ?_
        rintro _ _ ⟨sw, hrw, rfl⟩
        obtain ⟨gw, cw, rfl⟩ := hrw.form
        have e9 : List.map u8v (List.map gb pre) ++ [Value.int .u8 (y : Int)] = (encI (n : Int)).map u8v := by
          unfold encI; rw [hfin, List.map_append, List.map_singleton, hgv]; rfl
        rw [e9] at hrw ⊢
        obtain ⟨g9, c9, cur9, z9, hv9, rfl, hle9, hcm9, hcs9, htk9, hfr9⟩ := hrw.some (by rw [List.length_map]; exact encI_pos _)
        rw [hv9]
        refine op_r (by repeat (first | exact Has.here _ | apply Has.there)) (p_conv_bytes_str Tryd.underlying38 Tryd.underlying5 Tryd.underlying9 (fun _ => rfl) (by exact ⟨htk9, by simp⟩)) rfl rfl ?_
        refine op_w (p_assign (fun _ => rfl)) rfl rfl ?_
        refine op_w (p_assign (fun _ => rfl)) rfl rfl ?_
        refine ops_nil ?_
        refine nx_slots (env' := [(2, _), (3, _)]) [2, 3] rfl (fun _ => rfl) ?_
        refine nx_next ?_
        refine at_ret ?_
        refine nx_end2 (H' := _) rfl Tryd.results27 (fun _ => rfl) (fun _ => rfl) (by exact ⟨rfl, rfl⟩) ?hp_3
        case hp_3 => repeat (first | exact Sub.refl _ | exact Sub.nil _ | (apply Sub.cons; (focus (repeat (first | exact One.here _ _ | apply One.there)))) | refine Sub.drop _ ?_)

theorem rputString_spec (s : List UInt8) (hs : s.length ≤ 65536) : DoesR Tryd.prog 10 #[.string (str s)] [] (.tuple #[.string (str (encS s)), .int .i64 0]) := by
  have hss := str_size s
  have hel := encI_len s.length (by omega) (by omega)
  refine spec_enter Tryd.func10 rfl Tryd.ntmps10 rfl ?_
  intro u R
  refine at_slots (env' := [(0, _)]) [0] rfl (fun _ => rfl) ?_
  refine at_seq ?_
  refine at_region ?_
  refine op_w (p_assign (fun _ => rfl)) rfl rfl ?_
  refine op_w (p_assign (fun _ => rfl)) rfl rfl ?_
  refine ops_nil ?_
  refine nx_slots (env' := [(0, _)]) [0] rfl (fun _ => rfl) ?_
  refine nx_next ?_
  refine at_seq ?_
  refine at_seq ?_
  refine at_region ?_
  refine op_w (p_move (fun _ => rfl)) rfl rfl ?_
  refine op_w (p_len_str Tryd.underlying9 (fun _ => rfl)) rfl rfl ?_
  first | refine op_w (p_gtr_nat (n := 65536) (fun _ => rfl) (fun _ => rfl)) rfl rfl ?_ | refine op_w (p_gtr (fun _ => rfl) (fun _ => rfl)) rfl rfl ?_
  refine ops_nil ?_
  refine nx_slots (env' := [(0, _), (8, _)]) [0, 8] rfl (fun _ => rfl) ?_
  refine nx_next ?_
  first | refine at_if (fun _ => rfl) (fun hc1 => ?_) (fun hc1 => ?_) | refine at_if_bool (fun _ => rfl) (fun hc1 => ?_) (fun hc1 => ?_)
  ·
    exfalso; omega
  ·
    refine at_skip ?_
    refine nx_next ?_
    refine at_seq ?_
    refine at_region ?_
    refine op_w (p_move (fun _ => rfl)) rfl rfl ?_
    refine op_w (p_len_str Tryd.underlying9 (fun _ => rfl)) rfl rfl ?_
    refine op_e (w_callR (vs := [_]) (fun _ => rfl) Tryd.call27 (fun _ => rfl) rfl (rputInt_spec _ (by omega)) (by repeat (first | exact Pull.nil _ | (apply Pull.cons; (focus (repeat (first | exact One.here _ _ | apply One.there))))))) (fun _ => rfl) rfl rfl ?_
    rintro _ _ ⟨rfl, rfl⟩
    refine op_w (p_move (fun _ => rfl)) rfl rfl ?_
    refine op_w (p_extract (fun _ => rfl) rfl) rfl rfl ?_
    refine op_w (p_extract (fun _ => rfl) rfl) rfl rfl ?_
    refine op_w (p_assign (fun _ => rfl)) rfl rfl ?_
    refine op_w (p_assign (fun _ => rfl)) rfl rfl ?_
    refine ops_nil ?_
    refine nx_slots (env' := [(0, _), (4, _)]) [0, 4] rfl (fun _ => rfl) ?_
    refine nx_next ?_
    refine at_seq ?_
    refine at_region ?_
    refine op_w (p_move (fun _ => rfl)) rfl rfl ?_
    refine op_w (p_move (fun _ => rfl)) rfl rfl ?_
    (refine op_w (p_add_str (fun _ => rfl) (fun _ => rfl) ?_) rfl rfl ?_; (focus (rw [hss, str_size]; omega)))
    refine op_w (p_assign (fun _ => rfl)) rfl rfl ?_
    refine op_w (p_assign (fun _ => rfl)) rfl rfl ?_
    refine ops_nil ?_
    refine nx_slots (env' := [(2, _), (3, _)]) [2, 3] rfl (fun _ => rfl) ?_
    refine nx_next ?_
    refine at_ret ?_
    refine nx_end2 (H' := _) rfl Tryd.results10 (fun _ => rfl) (fun _ => rfl) (by exact ⟨by rw [str_app, hss]; rfl, rfl⟩) ?hp_1
    case hp_1 => repeat (first | exact Sub.refl _ | exact Sub.nil _ | (apply Sub.cons; (focus (repeat (first | exact One.here _ _ | apply One.there)))) | refine Sub.drop _ ?_)

end Go.Proofs.YtddblcjcodejaaaDoor
