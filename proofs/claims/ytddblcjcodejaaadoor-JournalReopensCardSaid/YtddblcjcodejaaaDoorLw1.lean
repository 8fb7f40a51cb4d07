/- Contracts: the functions of the law of chapter 23. -/
import Derived.Test.YtddblcjcodejaaaDoorAp4
import Derived.Test.YtddblcjcodejaaaDoorOp3
namespace Go.Proofs.YtddblcjcodejaaaDoor
open Go Go.RowKit Gw
set_option linter.unusedVariables false
set_option maxRecDepth 100000
attribute [local irreducible] Gw.At Gw.Nx Gw.Ops
def pickN (c : Int) (n : Nat) : Nat := ((if c < 0 then -(c + 1) else c).tmod n).toNat
def sizeN (c : Int) : Nat := 1 + pickN c 1500
theorem pickN_lt (c : Int) (n : Nat) (hn : 0 < n) : pickN c n < n := by
  unfold pickN
  have h1 : 0 ≤ (if c < 0 then -(c + 1) else c) := by split <;> omega
  have h2 := Int.tmod_lt_of_pos (if c < 0 then -(c + 1) else c) (b := (n : Int)) (by omega)
  have h3 := Int.tmod_nonneg (n : Int) h1
  omega
theorem pickN_eq (c : Int) (n : Nat) : (if c < 0 then -(c + 1) else c).tmod n = (pickN c n : Int) := by
  unfold pickN
  have h1 : 0 ≤ (if c < 0 then -(c + 1) else c) := by split <;> omega
  have h3 := Int.tmod_nonneg (n : Int) h1
  omega

theorem pick_spec (c : Int) (n : Nat) (hn : 0 < n) (hn2 : n ≤ 1000000) (h1 : -9223372036854775808 ≤ c) (h2 : c ≤ 9223372036854775807) : DoesR Tryd.prog 14 #[.int .i64 c, .int .i64 (n : Int)] [] (.int .i64 (pickN c n : Int)) := by
  refine spec_enter Tryd.func14 rfl Tryd.ntmps14 rfl ?_
  intro u R
  refine at_slots (env' := [(0, _), (1, _)]) [0, 1] rfl (fun _ => rfl) ?_
  refine at_seq ?_
  refine at_region ?_
  refine op_w (p_assign (fun _ => rfl)) rfl rfl ?_
  refine ops_nil ?_
  refine nx_slots (env' := [(0, _), (1, _)]) [0, 1] rfl (fun _ => rfl) ?_
  refine nx_next ?_
  refine at_seq ?_
  refine at_seq ?_
  refine at_region ?_
  refine op_w (p_move (fun _ => rfl)) rfl rfl ?_
  first | refine op_w (p_lss_nat (n := 0) (fun _ => rfl) (fun _ => rfl)) rfl rfl ?_ | refine op_w (p_lss (fun _ => rfl) (fun _ => rfl)) rfl rfl ?_
  refine ops_nil ?_
  refine nx_slots (env' := [(0, _), (1, _), (6, _)]) [0, 1, 6] rfl (fun _ => rfl) ?_
  refine nx_next ?_
  first | refine at_if (fun _ => rfl) (fun hc1 => ?_) (fun hc1 => ?_) | refine at_if_bool (fun _ => rfl) (fun hc1 => ?_) (fun hc1 => ?_)
  ·
    refine at_region ?_
    refine op_w (p_move (fun _ => rfl)) rfl rfl ?_
    first | (refine op_w (p_add_nat (n := 1) (fun _ => rfl) (fun _ => rfl) ?_) rfl rfl ?_; (focus (omega))) | (refine op_w (p_add (fun _ => rfl) (fun _ => rfl) (IntWalk.i64_in _ ?_)) rfl rfl ?_; (focus (omega)))
    (refine op_w (p_neg (fun _ => rfl) (IntWalk.i64_in _ ?_)) rfl rfl ?_; (focus (omega)))
    refine op_w (p_assign (fun _ => rfl)) rfl rfl ?_
    refine ops_nil ?_
    refine nx_slots (env' := [(0, _), (1, _)]) [0, 1] rfl (fun _ => rfl) ?_
    refine nx_next ?_
    refine at_seq ?_
    refine at_region ?_
    refine op_w (p_move (fun _ => rfl)) rfl rfl ?_
    refine op_w (p_move (fun _ => rfl)) rfl rfl ?_
    first | (refine op_w (p_rem_nat (fun _ => rfl) (fun _ => rfl) ?_) rfl rfl ?_; (focus (omega))) | (refine op_w (p_rem (fun _ => rfl) (fun _ => rfl) ?_ rfl) rfl rfl ?_; (focus (omega)))
    refine op_w (p_assign (fun _ => rfl)) rfl rfl ?_
    refine ops_nil ?_
    refine nx_slots (env' := [(4, _)]) [4] rfl (fun _ => rfl) ?_
    refine nx_next ?_
    refine at_ret ?_
    refine nx_end1 (H' := _) rfl Tryd.results14 (fun _ => rfl) (by exact ⟨by rw [← pickN_eq]; simp [*], rfl⟩) ?hp_1
    case hp_1 => repeat (first | exact Sub.refl _ | exact Sub.nil _ | (apply Sub.cons; (focus (repeat (first | exact One.here _ _ | apply One.there)))) | refine Sub.drop _ ?_)
  ·
    refine at_skip ?_
    refine nx_next ?_
    refine at_seq ?_
    refine at_region ?_
    refine op_w (p_move (fun _ => rfl)) rfl rfl ?_
    refine op_w (p_move (fun _ => rfl)) rfl rfl ?_
    first | (refine op_w (p_rem_nat (fun _ => rfl) (fun _ => rfl) ?_) rfl rfl ?_; (focus (omega))) | (refine op_w (p_rem (fun _ => rfl) (fun _ => rfl) ?_ rfl) rfl rfl ?_; (focus (omega)))
    refine op_w (p_assign (fun _ => rfl)) rfl rfl ?_
    refine ops_nil ?_
    refine nx_slots (env' := [(4, _)]) [4] rfl (fun _ => rfl) ?_
    refine nx_next ?_
    refine at_ret ?_
    refine nx_end1 (H' := _) rfl Tryd.results14 (fun _ => rfl) (by exact ⟨by rw [← pickN_eq]; simp [*], rfl⟩) ?hp_2
    case hp_2 => repeat (first | exact Sub.refl _ | exact Sub.nil _ | (apply Sub.cons; (focus (repeat (first | exact One.here _ _ | apply One.there)))) | refine Sub.drop _ ?_)

theorem size_law (c : Int) (h1 : -9223372036854775808 ≤ c) (h2 : c ≤ 9223372036854775807) : DoesR Tryd.prog 7 #[.int .i64 c] [] (.int .i64 (sizeN c : Int)) := by
  have hp := pickN_lt c 1500 (by decide)
  refine spec_enter Tryd.func7 rfl Tryd.ntmps7 rfl ?_
  intro u R
  refine at_slots (env' := [(0, _)]) [0] rfl (fun _ => rfl) ?_
  refine at_seq ?_
  refine at_region ?_
  refine op_w (p_assign (fun _ => rfl)) rfl rfl ?_
  refine ops_nil ?_
  refine nx_slots (env' := [(0, _)]) [0] rfl (fun _ => rfl) ?_
  refine nx_next ?_
  refine at_seq ?_
  refine at_region ?_
  refine op_w (p_move (fun _ => rfl)) rfl rfl ?_
  refine op_e (w_callR (vs := [_, _]) (fun _ => rfl) Tryd.call14 (fun _ => rfl) rfl (pick_spec c 1500 (by decide) (by decide) h1 h2) (by repeat (first | exact Pull.nil _ | (apply Pull.cons; (focus (repeat (first | exact One.here _ _ | apply One.there))))))) (fun _ => rfl) rfl rfl ?_
  rintro _ _ ⟨rfl, rfl⟩
  first | (refine op_w (p_add_nat (m := 1) (fun _ => rfl) (fun _ => rfl) ?_) rfl rfl ?_; (focus (omega))) | (refine op_w (p_add (fun _ => rfl) (fun _ => rfl) (IntWalk.i64_in _ ?_)) rfl rfl ?_; (focus (omega)))
  refine op_w (p_assign (fun _ => rfl)) rfl rfl ?_
  refine ops_nil ?_
  refine nx_slots (env' := [(2, _)]) [2] rfl (fun _ => rfl) ?_
  refine nx_next ?_
  refine at_ret ?_
  refine nx_end1 (H' := _) rfl Tryd.results7 (fun _ => rfl) (by exact ⟨rfl, rfl⟩) ?hp_1
  case hp_1 => repeat (first | exact Sub.refl _ | exact Sub.nil _ | (apply Sub.cons; (focus (repeat (first | exact One.here _ _ | apply One.there)))) | refine Sub.drop _ ?_)

theorem content_law (dp : Nat) (d : DiskS) (sd : List Chunk) (hR : DiskR d dp sd) : DoesR Tryd.prog 18 #[.pointer (some ⟨dp, 0, none⟩)] [sd] (.string (str (if d.off then [] else d.vi))) := by
  have hvi := hR.1.2.1
  have hrd := disk_read d dp sd hR 0 d.vi.length (by omega) (by omega)
  rw [List.drop_zero, List.take_length] at hrd
  obtain ⟨e, he⟩ : ∃ e : Int, (if d.off = true then (.tuple #[.string (str []), .int .i64 221] : Value) else .tuple #[.string (str d.vi), .int .i64 0]) = .tuple #[.string (str (if d.off then [] else d.vi)), .int .i64 e] := by
    cases d.off
    · exact ⟨0, rfl⟩
    · exact ⟨221, rfl⟩
  rw [he] at hrd
  refine spec_enter Tryd.func18 rfl Tryd.ntmps18 rfl ?_
  intro u R
  refine at_slots (env' := [(0, _)]) [0] rfl (fun _ => rfl) ?_
  refine at_seq ?_
  refine at_region ?_
  refine op_w (p_assign (fun _ => rfl)) rfl rfl ?_
  refine ops_nil ?_
  refine nx_slots (env' := [(0, _)]) [0] rfl (fun _ => rfl) ?_
  refine nx_next ?_
  refine at_seq ?_
  refine at_region ?_
  refine op_w (p_move (fun _ => rfl)) rfl rfl ?_
  refine op_w (p_move (fun _ => rfl)) rfl rfl ?_
  refine op_e (w_callR (vs := [_]) (fun _ => rfl) Tryd.call21 (fun _ => rfl) rfl (disk_size d dp sd hR) (by repeat (first | exact Pull.nil _ | (apply Pull.cons; (focus (repeat (first | exact One.here _ _ | apply One.there))))))) (fun _ => rfl) rfl rfl ?_
  rintro _ _ ⟨rfl, rfl⟩
  refine op_e (w_callR (vs := [_, _, _]) (fun _ => rfl) Tryd.call20 (fun _ => rfl) rfl (hrd) (by repeat (first | exact Pull.nil _ | (apply Pull.cons; (focus (repeat (first | exact One.here _ _ | apply One.there))))))) (fun _ => rfl) rfl rfl ?_
  rintro _ _ ⟨rfl, rfl⟩
  refine op_w (p_move (fun _ => rfl)) rfl rfl ?_
  refine op_w (p_extract (fun _ => rfl) rfl) rfl rfl ?_
  refine op_w (p_extract (fun _ => rfl) rfl) rfl rfl ?_
  refine op_w (p_assign (fun _ => rfl)) rfl rfl ?_
  refine op_w (p_assign (fun _ => rfl)) rfl rfl ?_
  refine ops_nil ?_
  refine nx_slots (env' := [(3, _)]) [3] rfl (fun _ => rfl) ?_
  refine nx_next ?_
  refine at_seq ?_
  refine at_region ?_
  refine op_w (p_move (fun _ => rfl)) rfl rfl ?_
  refine op_w (p_assign (fun _ => rfl)) rfl rfl ?_
  refine ops_nil ?_
  refine nx_slots (env' := [(2, _)]) [2] rfl (fun _ => rfl) ?_
  refine nx_next ?_
  refine at_ret ?_
  refine nx_end1 (H' := _) rfl Tryd.results18 (fun _ => rfl) (by exact ⟨rfl, rfl⟩) ?hp_1
  case hp_1 => repeat (first | exact Sub.refl _ | exact Sub.nil _ | (apply Sub.cons; (focus (repeat (first | exact One.here _ _ | apply One.there)))) | refine Sub.drop _ ?_)

end Go.Proofs.YtddblcjcodejaaaDoor
