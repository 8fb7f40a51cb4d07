/- Contracts: wire.groups, PutInt, PutString. -/
import Derived.Test.YtddblcjcodejaaaDoorDg5
namespace Go.Proofs.YtddblcjcodejaaaDoor
open Go Go.RowKit Gw
set_option linter.unusedVariables false
set_option maxRecDepth 100000
attribute [local irreducible] Gw.At Gw.Nx Gw.Ops
/-- The groups of 7 bits of z, the least significant one first, and whether a group is the last one. -/
def grps (z : Nat) : List (Nat × Bool) := if h : z < 128 then [(z, true)] else (z % 128, false) :: grps (z / 128)
termination_by z
decreasing_by omega
theorem grps_eq (z : Nat) : grps z = (z % 128, decide (z < 128)) :: (if z < 128 then [] else grps (z / 128)) := by
  rw [grps]
  by_cases h : z < 128
  · simp [h, Nat.mod_eq_of_lt h]
  · simp [h]
theorem grps_lt (z : Nat) : ∀ x ∈ grps z, x.1 < 128 := by
  induction z using Nat.strongRecOn with
  | _ z ih =>
    intro x hx
    rw [grps_eq] at hx
    rcases List.mem_cons.1 hx with rfl | hx
    · exact Nat.mod_lt _ (by decide)
    · by_cases h : z < 128
      · rw [if_pos h] at hx; cases hx
      · rw [if_neg h] at hx; exact ih (z / 128) (by omega) x hx
theorem grps_len (z k : Nat) (h : z < 128 ^ (k + 1)) : (grps z).length ≤ k + 1 := by
  induction k generalizing z with
  | zero => rw [grps_eq, if_pos (by simpa using h)]; simp
  | succ k ih =>
    rw [grps_eq]
    by_cases h1 : z < 128
    · rw [if_pos h1]; simp
    · rw [if_neg h1, List.length_cons]
      have : z / 128 < 128 ^ (k + 1) := by
        rw [Nat.pow_succ] at h
        exact Nat.div_lt_of_lt_mul (by rw [Nat.mul_comm]; exact h)
      have := ih _ this
      omega
/-- A group as a byte. -/
def gb (x : Nat × Bool) : UInt8 := UInt8.ofNat (if x.2 then x.1 else x.1 + 128)
theorem gb_val (x : Nat × Bool) (h : x.1 < 128) : u8v (gb x) = .int .u8 ((if x.2 then x.1 else x.1 + 128 : Nat) : Int) := by
  unfold u8v gb
  rw [UInt8.toNat_ofNat', Nat.mod_eq_of_lt (by split <;> omega)]
def zz (n : Int) : Nat := (if n < 0 then -(2 * n) - 1 else 2 * n).toNat
/-- The encoding of an integer. -/
def encI (n : Int) : List UInt8 := (grps (zz n)).map gb
theorem zz_lt (n : Int) (h1 : -4611686018427387903 ≤ n) (h2 : n ≤ 4611686018427387903) : zz n < 9223372036854775808 := by unfold zz; split <;> omega
theorem encI_pos (n : Int) : 0 < (encI n).length := by unfold encI; rw [grps_eq]; simp
theorem encI_len (n : Int) (h1 : -4611686018427387903 ≤ n) (h2 : n ≤ 4611686018427387903) : (encI n).length ≤ 9 := by
  unfold encI
  rw [List.length_map]
  exact grps_len (zz n) 8 (by have := zz_lt n h1 h2; omega)
theorem and127 (y : Nat) (h : y < 18446744073709551616) : bits .and .u64 (y : Int) 127 = ((y % 128 : Nat) : Int) := by
  have := u64_and_nat y 127 h (by decide)
  rw [nat_mask7] at this; exact this
theorem or128 (g : Nat) (h : g < 128) : bits .or .u8 (g : Int) 128 = ((g + 128 : Nat) : Int) := by
  have := u8_or_nat g 128 (by omega) (by decide)
  rw [Nat.or_comm, nat_join 7 128 g (by decide) h, Nat.add_comm] at this; exact this
theorem xor_ones (a : Nat) (h : a < 18446744073709551616) : a ^^^ 18446744073709551615 = 18446744073709551615 - a := by
  have h1 : BitVec.ofNat 64 a ^^^ BitVec.allOnes 64 = ~~~ BitVec.ofNat 64 a := BitVec.xor_allOnes
  have h2 := congrArg BitVec.toNat h1
  rw [BitVec.toNat_xor, BitVec.toNat_not, BitVec.toNat_ofNat, Nat.mod_eq_of_lt h] at h2
  exact h2
theorem zz_xor (n : Int) (h1 : -4611686018427387903 ≤ n) (h2 : n ≤ 4611686018427387903) : bits .xor .u64 (IntKind.u64.wrap (IntKind.u64.wrap n * 2 ^ (1 : Int).toNat)) (IntKind.u64.wrap (n / 2 ^ (63 : Int).toNat)) = (zz n : Int) := by
  rw [IntKind.wrap_u64, IntKind.wrap_u64, IntKind.wrap_u64]
  rw [show (2 : Int) ^ (1 : Int).toNat = 2 from rfl, show (2 : Int) ^ (63 : Int).toNat = 9223372036854775808 from rfl]
  by_cases h : n < 0
  · obtain ⟨m, hm⟩ : ∃ m : Nat, n = -(m : Int) := ⟨n.natAbs, by omega⟩
    have e1 : n % 18446744073709551616 * 2 % 18446744073709551616 = ((18446744073709551616 - 2 * m : Nat) : Int) := by omega
    have e2 : n / 9223372036854775808 % 18446744073709551616 = ((18446744073709551615 : Nat) : Int) := by omega
    rw [e1, e2, u64_xor_nat _ _ (by omega) (by omega), xor_ones _ (by omega)]
    unfold zz; rw [if_pos h]; omega
  · obtain ⟨m, hm⟩ : ∃ m : Nat, n = (m : Int) := ⟨n.natAbs, by omega⟩
    have e1 : n % 18446744073709551616 * 2 % 18446744073709551616 = ((2 * m : Nat) : Int) := by omega
    have e2 : n / 9223372036854775808 % 18446744073709551616 = ((0 : Nat) : Int) := by omega
    rw [e1, e2, u64_xor_nat _ _ (by omega) (by omega), Nat.xor_zero]
    unfold zz; rw [if_neg h]; omega
theorem at_nil {P : Program} {cx : Cx} {c : Code} {Q : Exit → Act → World → Prop} {env : Env} {H : Hp} (h : At P cx c Q env ([] :: H)) : At P cx c Q env H := at_flat (H' := [] :: H) rfl h
theorem mem_split {α : Type} {l pre post : List α} {x : α} (h : l = pre ++ x :: post) : x ∈ l := by rw [h]; simp

theorem groups_iter (bz z : Nat) (hz : z < 18446744073709551616) :
    IterSpec Tryd.prog 82 #[.pointer (some ⟨bz, 0, none⟩)] [[(bz, .cells #[.int .u64 (z : Int)] 90 (0, 0))]] (fun x => #[.int .u8 (x.1 : Int), .bool x.2]) (grps z) := by
  intro l J hy s hJ
  refine spec_enter Tryd.func82 rfl Tryd.ntmps82 rfl ?_
  intro u R
  refine at_slots (env' := [(0, _), (1, _)]) [0, 1] rfl (fun _ => rfl) ?_
  refine at_block ?_
  refine at_slots (env' := [(0, _), (1, _)]) [0, 1] rfl (fun _ => rfl) ?_
  refine at_loopB (e0 := []) (H0 := _) (n := _) (fun m e H => ∃ (pre : List (Nat × Bool)) (y : Nat) (s : List Chunk), m = 0 + y ∧ (grps z = pre ++ grps y ∧ y < 18446744073709551616 ∧ J pre s) ∧ e = [] ∧ H = [[(bz, .cells #[.int .u64 (y : Int)] 90 (0, 0))], s]) (by exact ⟨[], z, s, rfl, ⟨rfl, hz, hJ⟩, rfl, rfl⟩) (by repeat (first | exact Pull.nil _ | (apply Pull.cons; (focus (repeat (first | exact One.here _ _ | apply One.there)))))) ?_
  rintro _ _ _ ⟨pre, y, s, rfl, ⟨hsp, hy64, hJ⟩, rfl, rfl⟩
  refine at_block ?_
  refine at_seq ?_
  refine at_region ?_
  refine op_r (by repeat (first | exact Has.here _ | apply Has.there)) (p_load Tryd.isAgg90 (fun _ => rfl) (by rfl)) rfl rfl ?_
  first | refine op_w (p_lss_nat (n := 128) (fun _ => rfl) (fun _ => rfl)) rfl rfl ?_ | refine op_w (p_lss (fun _ => rfl) (fun _ => rfl)) rfl rfl ?_
  refine op_w (p_assign (fun _ => rfl)) rfl rfl ?_
  refine ops_nil ?_
  refine nx_slots (env' := [(0, _), (1, _), (3, _)]) [0, 1, 3] rfl (fun _ => rfl) ?_
  refine nx_next ?_
  refine at_seq ?_
  refine at_seq ?_
  have hyk := hy pre (y % 128, decide (y < 128)) (if y < 128 then [] else grps (y / 128)) s (by rw [hsp, ← grps_eq]) hJ
  refine at_region ?_
  refine op_w (p_move (fun _ => rfl)) rfl rfl ?_
  refine op_r (by repeat (first | exact Has.here _ | apply Has.there)) (p_load Tryd.isAgg90 (fun _ => rfl) (by rfl)) rfl rfl ?_
  refine op_w (p_and (m := (y : Int)) (n := 127) (fun _ => rfl) (fun _ => rfl) (and127 y hy64)) rfl rfl ?_
  first | refine op_w (p_conv_u64_u8 Tryd.underlying90 Tryd.underlying5 (fun _ => rfl)) rfl rfl ?_ | (refine op_w (p_conv_nat_u8 Tryd.underlying90 Tryd.underlying5 (fun _ => rfl) ?_) rfl rfl ?_; (focus (omega))) | (refine op_w (p_conv_int Tryd.underlying90 Tryd.underlying5 (fun _ => rfl) (IntWalk.u8_in _ ?_)) rfl rfl ?_; (focus (omega)))
  refine op_w (p_move (fun _ => rfl)) rfl rfl ?_
  refine op_e (w_yield (vs := [_, _]) (fun _ => rfl) (fun _ => rfl) (hyk) (by repeat (first | exact Pull.nil _ | (apply Pull.cons; (focus (repeat (first | exact One.here _ _ | apply One.there))))))) (fun _ => rfl) rfl rfl ?_
  rintro _ _ ⟨_, ⟨s', rfl, rfl, hJ'⟩, rfl⟩
  first | refine op_w (p_not_dec (fun _ => rfl)) rfl rfl ?_ | refine op_w (p_not (fun _ => rfl)) rfl rfl ?_
  refine op_w (p_move (fun _ => rfl)) rfl rfl ?_
  refine ops_split_bool (t := 13) (fun _ => rfl) rfl (fun hb => ?_) (fun hb => ?_)
  ·
    cases hb
  ·
    refine op_wg (fun _ => rfl) (p_move (fun _ => rfl)) rfl rfl ?_
    refine op_w (p_pick_f (fun _ => rfl) (fun _ => rfl)) rfl rfl ?_
    refine ops_nil ?_
    refine nx_slots (env' := [(0, _), (1, _), (15, _)]) [0, 1, 15] rfl (fun _ => rfl) ?_
    refine nx_next ?_
    first | refine at_if (fun _ => rfl) (fun hl => ?_) (fun hl => ?_) | refine at_if_bool (fun _ => rfl) (fun hl => ?_) (fun hl => ?_)
    ·
      refine at_ret ?_
      refine nx_thru (by intro h; cases h) ?_
      refine nx_block_ret ?_
      refine nx_thru (by intro h; cases h) ?_
      refine nx_block_ret ?_
      refine nx_end0 (H' := _) rfl Tryd.results82 (by
            exact ⟨s', rfl, by
              have e : grps z = pre ++ [(y % 128, decide (y < 128))] := by rw [hsp, grps_eq y, if_pos hl]
              rw [e]; exact hJ'⟩) ?hp_2
      case hp_2 => repeat (first | exact Sub.refl _ | exact Sub.nil _ | refine Sub.cons (by repeat (first | exact One.here _ _ | apply One.there)) ?_ | refine Sub.drop _ ?_)
    ·
      refine at_skip ?_
      refine nx_next ?_
      refine at_region ?_
      refine op_r (by repeat (first | exact Has.here _ | apply Has.there)) (p_load Tryd.isAgg90 (fun _ => rfl) (by rfl)) rfl rfl ?_
      first | (refine op_w (p_shr_nat (n := 7) (fun _ => rfl) (fun _ => rfl) ?_) rfl rfl ?_; (focus (first | decide | (simp [IntKind.bits]; done) | (simp [IntKind.bits]; omega)))) | (refine op_w (p_shr (fun _ => rfl) (fun _ => rfl) ?_ ?_ rfl) rfl rfl ?_; (focus (first | decide | omega | (simp [IntKind.bits]; done) | (simp [IntKind.bits]; omega))); (focus (first | decide | omega | (simp [IntKind.bits]; done) | (simp [IntKind.bits]; omega))))
      refine op_e (w_store Tryd.sizeOf90 (fun _ => rfl) (fun _ => rfl) rfl (by repeat (first | exact Upd.here _ | apply Upd.there)) (by rfl) (by first | decide | exact Nat.le_refl _ | (simp; done) | (simp; omega)) (by exact free_zero _)) (fun _ => rfl) rfl rfl ?_
      rintro _ _ ⟨rfl, rfl⟩
      refine ops_nil ?_
      refine nx_slots (env' := [(0, _), (1, _)]) [0, 1] rfl (fun _ => rfl) ?_
      refine nx_block_normal ?_
      refine nx_slots (env' := [(0, _), (1, _)]) [0, 1] rfl (fun _ => rfl) ?_
      refine nx_againB (e' := []) (m := _) (H' := _) (by exact ⟨pre ++ [(y % 128, decide (y < 128))], y / 2 ^ 7, s', rfl, ⟨by rw [hsp, grps_eq y, if_neg hl]; simp, by omega, hJ'⟩, rfl, rfl⟩) ?hm_3 ?hp_3
      case hm_3 => omega
      case hp_3 => repeat (first | exact Sub.refl _ | exact Sub.nil _ | refine Sub.cons (by repeat (first | exact One.here _ _ | apply One.there)) ?_ | refine Sub.drop _ ?_)

theorem groups_spec (z : Int) : Does Tryd.prog 73 #[.int .u64 z] [] (fun r H' => ∃ b, r = .func (.func 82) #[] #[.pointer (some ⟨b, 0, none⟩)] ∧ H' = [[(b, .cells #[.int .u64 z] 90 (0, 0))]]) := by
  refine spec_enter Tryd.func73 rfl Tryd.ntmps73 rfl ?_
  intro u R
  refine at_slots (env' := [(0, _)]) [0] rfl (fun _ => rfl) ?_
  refine at_seq ?_
  refine at_region ?_
  refine op_e (w_box (fun _ => rfl) (cs := #[_]) rfl) (fun _ => rfl) rfl rfl ?_
  rintro _ _ ⟨b1, rfl, rfl⟩
  refine op_w (p_assign (fun _ => rfl)) rfl rfl ?_
  refine ops_nil ?_
  refine nx_slots (env' := [(1, _)]) [1] rfl (fun _ => rfl) ?_
  refine nx_next ?_
  refine at_seq ?_
  refine at_region ?_
  refine op_w (p_makeFunc (vs := []) (us := [_]) (fun _ => rfl) (fun _ => rfl)) rfl rfl ?_
  refine op_w (p_assign (fun _ => rfl)) rfl rfl ?_
  refine ops_nil ?_
  refine nx_slots (env' := [(2, _)]) [2] rfl (fun _ => rfl) ?_
  refine nx_next ?_
  refine at_ret ?_
  refine nx_end1 (H' := _) rfl Tryd.results73 (fun _ => rfl) (by exact ⟨_, rfl, rfl⟩) ?hp_1
  case hp_1 => repeat (first | exact Sub.refl _ | exact Sub.nil _ | refine Sub.cons (by repeat (first | exact One.here _ _ | apply One.there)) ?_ | refine Sub.drop _ ?_)

theorem putInt_spec (n : Int) (h1 : -4611686018427387903 ≤ n) (h2 : n ≤ 4611686018427387903) : DoesR Tryd.prog 65 #[.int .i64 n] [] (.tuple #[.string (str (encI n)), .int .i64 0]) := by
  have hml : maxLen = 9223372036854775807 := rfl
  have hzl := zz_lt n h1 h2
  have hgl := encI_len n h1 h2
  unfold encI at hgl
  rw [List.length_map] at hgl
  refine spec_enterM Tryd.func65 rfl Tryd.ntmps65 rfl ?_
  intro u R
  refine at_slots (env' := [(0, _)]) [0] rfl (fun _ => rfl) ?_
  refine at_seq ?_
  refine at_region ?_
  refine op_w (p_assign (fun _ => rfl)) rfl rfl ?_
  refine op_w (p_assign (fun _ => rfl)) rfl rfl ?_
  refine ops_nil ?_
  refine nx_slots (env' := [(0, _)]) [0] rfl (fun _ => rfl) ?_
  refine nx_next ?_
  refine at_seq ?_
  refine at_seq ?_
  refine at_region ?_
  refine op_w (p_move (fun _ => rfl)) rfl rfl ?_
  refine op_w (p_lss (fun _ => rfl) (fun _ => rfl)) rfl rfl ?_
  refine op_w (p_move (fun _ => rfl)) rfl rfl ?_
  first | refine ops_split (t := 9) (fun _ => rfl) rfl (fun hc1 => ?_) (fun hc1 => ?_) | refine ops_split_bool (t := 9) (fun _ => rfl) rfl (fun hc1 => ?_) (fun hc1 => ?_)
  ·
    exfalso; omega
  ·
    refine op_wg (fun _ => rfl) (p_move (fun _ => rfl)) rfl rfl ?_
    refine op_wg (fun _ => rfl) (p_gtr (fun _ => rfl) (fun _ => rfl)) rfl rfl ?_
    refine op_w (p_pick_f (fun _ => rfl) (fun _ => rfl)) rfl rfl ?_
    refine ops_nil ?_
    refine nx_slots (env' := [(0, _), (12, _)]) [0, 12] rfl (fun _ => rfl) ?_
    refine nx_next ?_
    first | refine at_if (fun _ => rfl) (fun hc2 => ?_) (fun hc2 => ?_) | refine at_if_bool (fun _ => rfl) (fun hc2 => ?_) (fun hc2 => ?_)
    ·
      exfalso; omega
    ·
      refine at_skip ?_
      refine nx_next ?_
      refine at_seq ?_
      refine at_region ?_
      refine op_e (w_alloc Tryd.zeroValue38 (cs := #[_]) rfl) (fun _ => rfl) rfl rfl ?_
      rintro _ _ ⟨bo, rfl, rfl⟩
      refine ops_nil ?_
      refine nx_slots (env' := [(0, _), (4, _)]) [0, 4] rfl (fun _ => rfl) ?_
      refine nx_next ?_
      refine at_seq ?_
      refine at_seq ?_
      refine at_region ?_
      refine op_w (p_move (fun _ => rfl)) rfl rfl ?_
      first | (refine op_w (p_conv_nat_u64 Tryd.underlying3 Tryd.underlying90 (fun _ => rfl) ?_) rfl rfl ?_; (focus (omega))) | refine op_w (p_conv_int Tryd.underlying3 Tryd.underlying90 (fun _ => rfl) rfl) rfl rfl ?_
      first | (refine op_w (p_shl_nat_u64 (n := 1) (fun _ => rfl) (fun _ => rfl) ?_ ?_) rfl rfl ?_; (focus (omega)); (focus (omega))) | (refine op_w (p_shl (fun _ => rfl) (fun _ => rfl) ?_ ?_ rfl) rfl rfl ?_; (focus (first | decide | omega | (simp [IntKind.bits]; done) | (simp [IntKind.bits]; omega))); (focus (first | decide | omega | (simp [IntKind.bits]; done) | (simp [IntKind.bits]; omega))))
      refine op_w (p_move (fun _ => rfl)) rfl rfl ?_
      first | (refine op_w (p_shr_nat (n := 63) (fun _ => rfl) (fun _ => rfl) ?_) rfl rfl ?_; (focus (first | decide | (simp [IntKind.bits]; done) | (simp [IntKind.bits]; omega)))) | (refine op_w (p_shr (fun _ => rfl) (fun _ => rfl) ?_ ?_ rfl) rfl rfl ?_; (focus (first | decide | omega | (simp [IntKind.bits]; done) | (simp [IntKind.bits]; omega))); (focus (first | decide | omega | (simp [IntKind.bits]; done) | (simp [IntKind.bits]; omega))))
      first | (refine op_w (p_conv_nat_u64 Tryd.underlying3 Tryd.underlying90 (fun _ => rfl) ?_) rfl rfl ?_; (focus (omega))) | refine op_w (p_conv_int Tryd.underlying3 Tryd.underlying90 (fun _ => rfl) rfl) rfl rfl ?_
      refine op_w (p_xor (fun _ => rfl) (fun _ => rfl) (zz_xor n h1 h2)) rfl rfl ?_
      refine ops_eff (fun _ => rfl) (fits_of rfl) rfl (w_call (vs := [_]) (fun _ => rfl) Tryd.call73 (fun _ => rfl) rfl (groups_spec _) (by repeat (first | exact Pull.nil _ | (apply Pull.cons; (focus (repeat (first | exact One.here _ _ | apply One.there))))))) ?_ no_pan
      rintro _ _ ⟨_, ⟨bz, rfl, rfl⟩, rfl⟩
      refine ops_nil ?_
      refine nx_slots (env' := [(4, _), (20, _)]) [4, 20] rfl (fun _ => rfl) ?_
      refine nx_next ?_
      refine at_block ?_
      refine at_slots (env' := [(4, _), (20, _)]) [4, 20] rfl (fun _ => rfl) ?_
      refine at_nil ?_
      refine at_rangeAll (H0 := _) (R := _) (I := (fun pre H => ∃ v s, H = [[(bo, .cells #[v] 38 (0, 0))], s] ∧ Row 5 v ((pre.map gb).map u8v) s)) (asg := fun x => [(6, .bool x.2), (5, .int .u8 (x.1 : Int)), (22, .bool x.2), (21, .int .u8 (x.1 : Int))]) rfl (fun _ => rfl) Tryd.call82 (groups_iter bz (zz n) (by omega)) (fun _ => rfl) rfl (by repeat (first | exact Pull.nil _ | (apply Pull.cons; (focus (repeat (first | exact One.here _ _ | apply One.there)))))) (⟨_, [], rfl, row_nil _⟩) ?ha_2 ?hbd_2 ?hk_2
      case ha_2 =>
        intro _ x _ _
        refine at_seq ?_
        refine at_region ?_
        refine op_w (p_assign (fun _ => rfl)) rfl rfl ?_
        refine ops_nil ?_
        refine nx_next ?_
        refine at_region ?_
        refine op_w (p_assign (fun _ => rfl)) rfl rfl ?_
        refine ops_nil ?_
        exact nx_is
      case hbd_2 =>
        intro l pre x post u H1 R1 hxs hI
        obtain ⟨v, s, rfl, hr⟩ := hI
        have hx1 := grps_lt _ x (mem_split hxs)
        have hgv := gb_val x hx1
        have hpl := congrArg List.length hxs
        rw [List.length_append, List.length_cons] at hpl
        obtain ⟨gv, cv, rfl⟩ := hr.form
        refine at_block ?_
        refine at_seq ?_
        refine at_seq ?_
        refine at_region ?_
        refine op_w (p_move (fun _ => rfl)) rfl rfl ?_
        first | refine op_w (p_not_dec (fun _ => rfl)) rfl rfl ?_ | refine op_w (p_not (fun _ => rfl)) rfl rfl ?_
        refine ops_nil ?_
        refine nx_slots (env' := [(4, _), (5, _), (24, _)]) [4, 5, 24] rfl (fun _ => rfl) ?_
        refine nx_next ?_
        refine at_if_bool (fun _ => rfl) (fun hc5 => ?_) (fun hc5 => ?_)
        ·
          have hxb : x.2 = false := by simpa using hc5
          refine at_region ?_
          refine op_w (p_move (fun _ => rfl)) rfl rfl ?_
          refine op_w (p_or (m := (x.1 : Int)) (n := 128) (fun _ => rfl) (fun _ => rfl) (or128 x.1 hx1)) rfl rfl ?_
          refine op_w (p_assign (fun _ => rfl)) rfl rfl ?_
          refine ops_nil ?_
          refine nx_slots (env' := [(4, _), (5, _)]) [4, 5] rfl (fun _ => rfl) ?_
          refine nx_next ?_
          refine at_region ?_
          refine op_r (by repeat (first | exact Has.here _ | apply Has.there)) (p_load Tryd.isAgg38 (fun _ => rfl) (by rfl)) rfl rfl ?_
          refine op_w (p_move (fun _ => rfl)) rfl rfl ?_
          refine op_e (w_buildSlice (vs := [_]) (cs := [_]) Tryd.underlying38 Tryd.sizeOf5 Tryd.zeroValue5 (fun _ => rfl) rfl rfl rfl rfl rfl) (fun _ => rfl) rfl rfl ?_
          rintro _ _ ⟨b2, rfl, rfl⟩
          refine op_e (w_append (by_ := 1) (news := [_]) Tryd.underlying38 (rfl : Tryd.prog.info? 5 = some Tryd.t5) rfl rfl rfl rfl (fun _ => rfl) hr (fun _ => rfl) (by repeat (first | exact One.here _ _ | apply One.there)) (by repeat (first | exact Has.here _ | apply Has.there)) (by rfl) rfl (by simp [Value.oneCell']) (by decide) (by (simp only [List.length_map]; omega)) (by (simp only [List.length_map]; omega))) (fun _ => rfl) rfl rfl ?_
          rintro _ _ ⟨sb, hrb, rfl⟩
          obtain ⟨gb, cb, rfl⟩ := hrb.form
          refine op_e (w_store Tryd.sizeOf38 (fun _ => rfl) (fun _ => rfl) rfl (by repeat (first | exact Upd.here _ | apply Upd.there)) (by rfl) (by first | decide | exact Nat.le_refl _ | (simp; done) | (simp; omega)) (by exact free_zero _)) (fun _ => rfl) rfl rfl ?_
          rintro _ _ ⟨rfl, rfl⟩
          refine ops_nil ?_
          refine nx_slots (env' := []) [] rfl (fun _ => rfl) ?_
          refine nx_block_normal ?_
          refine nx_round (H' := _) rfl (by
                exact ⟨_, _, rfl, by
                  rw [List.map_append, List.map_append, List.map_singleton, List.map_singleton, hgv, hxb]; exact hrb⟩) ?hp_3
          case hp_3 => repeat (first | exact Sub.refl _ | exact Sub.nil _ | refine Sub.cons (by repeat (first | exact One.here _ _ | apply One.there)) ?_ | refine Sub.drop _ ?_)
        ·
          have hxb : x.2 = true := by simpa using hc5
          refine at_skip ?_
          refine nx_next ?_
          refine at_region ?_
          refine op_r (by repeat (first | exact Has.here _ | apply Has.there)) (p_load Tryd.isAgg38 (fun _ => rfl) (by rfl)) rfl rfl ?_
          refine op_w (p_move (fun _ => rfl)) rfl rfl ?_
          refine op_e (w_buildSlice (vs := [_]) (cs := [_]) Tryd.underlying38 Tryd.sizeOf5 Tryd.zeroValue5 (fun _ => rfl) rfl rfl rfl rfl rfl) (fun _ => rfl) rfl rfl ?_
          rintro _ _ ⟨b4, rfl, rfl⟩
          refine op_e (w_append (by_ := 1) (news := [_]) Tryd.underlying38 (rfl : Tryd.prog.info? 5 = some Tryd.t5) rfl rfl rfl rfl (fun _ => rfl) hr (fun _ => rfl) (by repeat (first | exact One.here _ _ | apply One.there)) (by repeat (first | exact Has.here _ | apply Has.there)) (by rfl) rfl (by simp [Value.oneCell']) (by decide) (by (simp only [List.length_map]; omega)) (by (simp only [List.length_map]; omega))) (fun _ => rfl) rfl rfl ?_
          rintro _ _ ⟨sb, hrb, rfl⟩
          obtain ⟨gb, cb, rfl⟩ := hrb.form
          refine op_e (w_store Tryd.sizeOf38 (fun _ => rfl) (fun _ => rfl) rfl (by repeat (first | exact Upd.here _ | apply Upd.there)) (by rfl) (by first | decide | exact Nat.le_refl _ | (simp; done) | (simp; omega)) (by exact free_zero _)) (fun _ => rfl) rfl rfl ?_
          rintro _ _ ⟨rfl, rfl⟩
          refine ops_nil ?_
          refine nx_slots (env' := []) [] rfl (fun _ => rfl) ?_
          refine nx_block_normal ?_
          refine nx_round (H' := _) rfl (by
                exact ⟨_, _, rfl, by
                  rw [List.map_append, List.map_append, List.map_singleton, List.map_singleton, hgv, hxb]; exact hrb⟩) ?hp_4
          case hp_4 => repeat (first | exact Sub.refl _ | exact Sub.nil _ | refine Sub.cons (by repeat (first | exact One.here _ _ | apply One.there)) ?_ | refine Sub.drop _ ?_)
      case hk_2 =>
        intro D1 H2 hI2
        obtain ⟨v, s, rfl, hr⟩ := hI2
        have hep := encI_pos n
        unfold encI at hep
        obtain ⟨gv, cv, cur, zv, rfl, rfl, hle, hcm, hcs, htk, hfr⟩ := hr.some (by rw [List.length_map]; exact hep)
        refine nx_slots (env' := [(4, _)]) [4] rfl (fun _ => rfl) ?_
        refine nx_block_normal ?_
        refine nx_next ?_
        refine at_seq ?_
        refine at_region ?_
        refine op_r (by repeat (first | exact Has.here _ | apply Has.there)) (p_load Tryd.isAgg38 (fun _ => rfl) (by rfl)) rfl rfl ?_
        refine op_r (by repeat (first | exact Has.here _ | apply Has.there)) (p_conv_bytes_str Tryd.underlying38 Tryd.underlying5 Tryd.underlying9 (fun _ => rfl) (by exact ⟨htk, by simp⟩)) rfl rfl ?_
        refine op_w (p_assign (fun _ => rfl)) rfl rfl ?_
        refine op_w (p_assign (fun _ => rfl)) rfl rfl ?_
        refine ops_nil ?_
        refine nx_slots (env' := [(2, _), (3, _)]) [2, 3] rfl (fun _ => rfl) ?_
        refine nx_next ?_
        refine at_ret ?_
        refine nx_endM1 (H' := _) rfl (res2 Tryd.results65 (fun _ => rfl) (fun _ => rfl)) (by repeat (first | exact One.here _ _ | apply One.there)) (by exact ⟨rfl, rfl⟩) ?hp_5
        case hp_5 => repeat (first | exact Sub.refl _ | exact Sub.nil _ | refine Sub.cons (by repeat (first | exact One.here _ _ | apply One.there)) ?_ | refine Sub.drop _ ?_)

end Go.Proofs.YtddblcjcodejaaaDoor
