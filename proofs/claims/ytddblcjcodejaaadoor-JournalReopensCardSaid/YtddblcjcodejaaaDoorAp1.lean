/- Contracts: slices.ContainsFunc at Append, the four calls of Append. -/
import Derived.Test.YtddblcjcodejaaaDoorBu1
namespace Go.Proofs.YtddblcjcodejaaaDoor
open Go Go.RowKit Gw
set_option linter.unusedVariables false
set_option maxRecDepth 100000
attribute [local irreducible] Gw.At Gw.Nx Gw.Ops
def isLong (r : List UInt8) : Bool := decide (r.length > 65536)
theorem any_take (ls : List (List UInt8)) (i : Nat) (x : List UInt8) (h : ls[i]? = some x) : (ls.take (i + 1)).any isLong = ((ls.take i).any isLong || isLong x) := by
  rw [List.take_add_one, h]; simp
theorem any_at (ls : List (List UInt8)) (i : Nat) (x : List UInt8) (h : ls[i]? = some x) (hx : isLong x = true) : ls.any isLong = true := by
  rw [List.any_eq_true]
  exact ⟨x, List.mem_of_getElem? h, hx⟩

theorem index_none (f : Value) : DoesR Tryd.prog 51 #[.slice none 0 0, f] [] (.int .i64 (-1)) := by
  refine spec_enter Tryd.func51 rfl Tryd.ntmps51 rfl ?_
  intro u R
  refine at_slots (env' := [(0, _), (1, _)]) [0, 1] rfl (fun _ => rfl) ?_
  refine at_seq ?_
  refine at_region ?_
  refine op_w (p_assign (fun _ => rfl)) rfl rfl ?_
  refine ops_nil ?_
  refine nx_slots (env' := [(0, _), (1, _)]) [0, 1] rfl (fun _ => rfl) ?_
  refine nx_next ?_
  refine at_seq ?_
  refine at_seq ?_
  refine at_region ?_
  refine op_w (p_move (fun _ => rfl)) rfl rfl ?_
  refine op_w (p_len_slice Tryd.underlying22 (fun _ => rfl)) rfl rfl ?_
  refine op_w (p_move (fun _ => rfl)) rfl rfl ?_
  refine ops_nil ?_
  refine nx_slots (env' := [(0, _), (1, _), (7, _), (8, _)]) [0, 1, 7, 8] rfl (fun _ => rfl) ?_
  refine nx_next ?_
  refine at_block ?_
  refine at_slots (env' := [(8, _), (0, _), (1, _), (7, _)]) [8, 0, 1, 7] rfl (fun _ => rfl) ?_
  refine at_loopB (e0 := [(8, _)]) (H0 := _) (n := _) (fun m e H => ∃ (i : Nat), m = 0 + i ∧ (True) ∧ e = [(8, .int .i64 (i : Int))] ∧ H = []) (by exact ⟨0, rfl, trivial, rfl, rfl⟩) (by repeat (first | exact Pull.nil _ | (apply Pull.cons; (focus (repeat (first | exact One.here _ _ | apply One.there)))))) ?_
  rintro _ _ _ ⟨i, rfl, _, rfl, rfl⟩
  refine at_seq ?_
  refine at_region ?_
  first | refine op_w (p_lss_nat (fun _ => rfl) (fun _ => rfl)) rfl rfl ?_ | refine op_w (p_lss (fun _ => rfl) (fun _ => rfl)) rfl rfl ?_
  refine ops_nil ?_
  refine nx_slots (env' := [(0, _), (1, _), (7, _), (8, _), (9, _)]) [0, 1, 7, 8, 9] rfl (fun _ => rfl) ?_
  refine nx_next ?_
  refine at_seq ?_
  first | refine at_if (fun _ => rfl) (fun hc1 => ?_) (fun hc1 => ?_) | refine at_if_bool (fun _ => rfl) (fun hc1 => ?_) (fun hc1 => ?_)
  ·
    exfalso; omega
  ·
    refine at_exit ?_
    refine nx_thru (by intro h; cases h) ?_
    refine nx_thru (by intro h; cases h) ?_
    refine nx_block_exit ?_
    refine nx_next ?_
    refine at_seq ?_
    refine at_region ?_
    refine op_w (p_assign (fun _ => rfl)) rfl rfl ?_
    refine ops_nil ?_
    refine nx_slots (env' := [(4, _)]) [4] rfl (fun _ => rfl) ?_
    refine nx_next ?_
    refine at_ret ?_
    refine nx_end1 (H' := _) rfl Tryd.results51 (fun _ => rfl) (by exact ⟨rfl, rfl⟩) ?hp_2
    case hp_2 => repeat (first | exact Sub.refl _ | exact Sub.nil _ | refine Sub.cons (by repeat (first | exact One.here _ _ | apply One.there)) ?_ | refine Sub.drop _ ?_)

theorem contains_none (f : Value) : DoesR Tryd.prog 29 #[.slice none 0 0, f] [] (.bool false) := by
  refine spec_enter Tryd.func29 rfl Tryd.ntmps29 rfl ?_
  intro u R
  refine at_slots (env' := [(0, _), (1, _)]) [0, 1] rfl (fun _ => rfl) ?_
  refine at_seq ?_
  refine at_region ?_
  refine op_w (p_assign (fun _ => rfl)) rfl rfl ?_
  refine ops_nil ?_
  refine nx_slots (env' := [(0, _), (1, _)]) [0, 1] rfl (fun _ => rfl) ?_
  refine nx_next ?_
  refine at_seq ?_
  refine at_region ?_
  refine op_w (p_move (fun _ => rfl)) rfl rfl ?_
  refine op_w (p_move (fun _ => rfl)) rfl rfl ?_
  refine op_e (w_callR (vs := [_, _]) (fun _ => rfl) Tryd.call51 (fun _ => rfl) rfl (index_none _) (by repeat (first | exact Pull.nil _ | (apply Pull.cons; (focus (repeat (first | exact One.here _ _ | apply One.there))))))) (fun _ => rfl) rfl rfl ?_
  rintro _ _ ⟨rfl, rfl⟩
  first | refine op_w (p_geq_nat (n := 0) (fun _ => rfl) (fun _ => rfl)) rfl rfl ?_ | refine op_w (p_geq (fun _ => rfl) (fun _ => rfl)) rfl rfl ?_
  refine op_w (p_assign (fun _ => rfl)) rfl rfl ?_
  refine ops_nil ?_
  refine nx_slots (env' := [(4, _)]) [4] rfl (fun _ => rfl) ?_
  refine nx_next ?_
  refine at_ret ?_
  refine nx_end1 (H' := _) rfl Tryd.results29 (fun _ => rfl) (by exact ⟨rfl, rfl⟩) ?hp_1
  case hp_1 => repeat (first | exact Sub.refl _ | exact Sub.nil _ | refine Sub.cons (by repeat (first | exact One.here _ _ | apply One.there)) ?_ | refine Sub.drop _ ?_)

theorem index_some (g cap : Nat) (cur : Array Value) (T : TypeId) (z : Nat × Nat) (ls : List (List UInt8)) (hin : CellsIn cur 0 (ls.map strV)) (hn : ls.length ≤ 1073741824) :
    Does Tryd.prog 51 #[.slice (some ⟨g, 0, none⟩) ls.length cap, .func (.func 28) #[] #[]] [[(g, .cells cur T z)]] (fun r H' => ∃ k : Int, r = .int .i64 k ∧ decide (0 ≤ k) = ls.any isLong ∧ H' = [[(g, .cells cur T z)]]) := by
  refine spec_enter Tryd.func51 rfl Tryd.ntmps51 rfl ?_
  intro u R
  refine at_slots (env' := [(0, _), (1, _)]) [0, 1] rfl (fun _ => rfl) ?_
  refine at_seq ?_
  refine at_region ?_
  refine op_w (p_assign (fun _ => rfl)) rfl rfl ?_
  refine ops_nil ?_
  refine nx_slots (env' := [(0, _), (1, _)]) [0, 1] rfl (fun _ => rfl) ?_
  refine nx_next ?_
  refine at_seq ?_
  refine at_seq ?_
  refine at_region ?_
  refine op_w (p_move (fun _ => rfl)) rfl rfl ?_
  refine op_w (p_len_slice Tryd.underlying22 (fun _ => rfl)) rfl rfl ?_
  refine op_w (p_move (fun _ => rfl)) rfl rfl ?_
  refine ops_nil ?_
  refine nx_slots (env' := [(0, _), (1, _), (7, _), (8, _)]) [0, 1, 7, 8] rfl (fun _ => rfl) ?_
  refine nx_next ?_
  refine at_block ?_
  refine at_slots (env' := [(8, _), (0, _), (1, _), (7, _)]) [8, 0, 1, 7] rfl (fun _ => rfl) ?_
  refine at_loopB (e0 := [(8, _)]) (H0 := _) (n := _) (fun m e H => ∃ (i : Nat), m = ls.length - i ∧ (i ≤ ls.length ∧ (ls.take i).any isLong = false) ∧ e = [(8, .int .i64 (i : Int))] ∧ H = []) (by exact ⟨0, rfl, ⟨Nat.zero_le _, rfl⟩, rfl, rfl⟩) (by repeat (first | exact Pull.nil _ | (apply Pull.cons; (focus (repeat (first | exact One.here _ _ | apply One.there)))))) ?_
  rintro _ _ _ ⟨i, rfl, ⟨hi, hany⟩, rfl, rfl⟩
  refine at_seq ?_
  refine at_region ?_
  first | refine op_w (p_lss_nat (fun _ => rfl) (fun _ => rfl)) rfl rfl ?_ | refine op_w (p_lss (fun _ => rfl) (fun _ => rfl)) rfl rfl ?_
  refine ops_nil ?_
  refine nx_slots (env' := [(0, _), (1, _), (7, _), (8, _), (9, _)]) [0, 1, 7, 8, 9] rfl (fun _ => rfl) ?_
  refine nx_next ?_
  refine at_seq ?_
  first | refine at_if (fun _ => rfl) (fun hlt => ?_) (fun hlt => ?_) | refine at_if_bool (fun _ => rfl) (fun hlt => ?_) (fun hlt => ?_)
  ·
    refine at_skip ?_
    refine nx_next ?_
    refine at_seq ?_
    refine at_block ?_
    refine at_seq ?_
    refine at_region ?_
    refine op_w (p_move (fun _ => rfl)) rfl rfl ?_
    refine op_w (p_assign (fun _ => rfl)) rfl rfl ?_
    refine ops_nil ?_
    refine nx_slots (env' := [(0, _), (1, _), (5, _), (7, _), (8, _)]) [0, 1, 5, 7, 8] rfl (fun _ => rfl) ?_
    refine nx_next ?_
    refine at_seq ?_
    obtain ⟨x, hx⟩ : ∃ x, ls[i]? = some x := ⟨_, List.getElem?_eq_getElem hlt⟩
    have hcell : cur[i]? = some (strV x) := by
      have := hin.get i (strV x) (by rw [List.getElem?_map, hx]; rfl)
      rwa [Nat.zero_add] at this
    refine at_region ?_
    refine op_w (p_move (fun _ => rfl)) rfl rfl ?_
    refine op_w (p_move (fun _ => rfl)) rfl rfl ?_
    refine op_w (p_move (fun _ => rfl)) rfl rfl ?_
    first | (refine op_w (p_indexAddr_nat0 Tryd.underlying22 Tryd.sizeOf9 (fun _ => rfl) (fun _ => rfl) ?_) rfl rfl ?_; (focus (omega))) | (refine op_w (p_indexAddr_nat1 Tryd.underlying22 Tryd.sizeOf9 (fun _ => rfl) (fun _ => rfl) ?_) rfl rfl ?_; (focus (omega)))
    refine op_r (by repeat (first | exact Has.here _ | apply Has.there)) (p_load Tryd.isAgg9 (fun _ => rfl) (by exact hcell)) rfl rfl ?_
    refine op_e (w_callR (vs := [_]) (fun _ => rfl) Tryd.call28 (fun _ => rfl) rfl (long_spec x) (by repeat (first | exact Pull.nil _ | (apply Pull.cons; (focus (repeat (first | exact One.here _ _ | apply One.there))))))) (fun _ => rfl) rfl rfl ?_
    rintro _ _ ⟨rfl, rfl⟩
    refine ops_nil ?_
    refine nx_slots (env' := [(0, _), (1, _), (5, _), (7, _), (8, _), (16, _)]) [0, 1, 5, 7, 8, 16] rfl (fun _ => rfl) ?_
    refine nx_next ?_
    refine at_if_bool (fun _ => rfl) (fun hlx => ?_) (fun hlx => ?_)
    ·
      refine at_seq ?_
      refine at_region ?_
      refine op_w (p_move (fun _ => rfl)) rfl rfl ?_
      refine op_w (p_assign (fun _ => rfl)) rfl rfl ?_
      refine ops_nil ?_
      refine nx_slots (env' := [(4, _)]) [4] rfl (fun _ => rfl) ?_
      refine nx_next ?_
      refine at_ret ?_
      refine nx_block_ret ?_
      refine nx_thru (by intro h; cases h) ?_
      refine nx_thru (by intro h; cases h) ?_
      refine nx_block_ret ?_
      refine nx_thru (by intro h; cases h) ?_
      refine nx_end1 (H' := _) rfl Tryd.results51 (fun _ => rfl) (by exact ⟨(i : Int), rfl, by rw [any_at ls i x hx hlx]; exact decide_eq_true (by omega), rfl⟩) ?hp_2
      case hp_2 => repeat (first | exact Sub.refl _ | exact Sub.nil _ | refine Sub.cons (by repeat (first | exact One.here _ _ | apply One.there)) ?_ | refine Sub.drop _ ?_)
    ·
      refine at_skip ?_
      refine nx_block_normal ?_
      refine nx_next ?_
      refine at_region ?_
      first | (refine op_w (p_add_nat (n := 1) (fun _ => rfl) (fun _ => rfl) ?_) rfl rfl ?_; (focus (omega))) | (refine op_w (p_add (fun _ => rfl) (fun _ => rfl) (IntWalk.i64_in _ ?_)) rfl rfl ?_; (focus (omega)))
      refine op_w (p_move (fun _ => rfl)) rfl rfl ?_
      refine ops_nil ?_
      refine nx_slots (env' := [(0, _), (1, _), (7, _), (8, _)]) [0, 1, 7, 8] rfl (fun _ => rfl) ?_
      refine nx_slots (env' := [(8, _), (0, _), (1, _), (7, _)]) [8, 0, 1, 7] rfl (fun _ => rfl) ?_
      refine nx_againB (e' := [(8, _)]) (m := _) (H' := _) (by exact ⟨i + 1, rfl, ⟨by omega, by rw [any_take ls i x hx, hany]; exact hlx⟩, rfl, rfl⟩) ?hm_3 ?hp_3
      case hm_3 => omega
      case hp_3 => repeat (first | exact Sub.refl _ | exact Sub.nil _ | refine Sub.cons (by repeat (first | exact One.here _ _ | apply One.there)) ?_ | refine Sub.drop _ ?_)
  ·
    have ei : i = ls.length := by omega
    subst ei
    rw [List.take_length] at hany
    refine at_exit ?_
    refine nx_thru (by intro h; cases h) ?_
    refine nx_thru (by intro h; cases h) ?_
    refine nx_block_exit ?_
    refine nx_next ?_
    refine at_seq ?_
    refine at_region ?_
    refine op_w (p_assign (fun _ => rfl)) rfl rfl ?_
    refine ops_nil ?_
    refine nx_slots (env' := [(4, _)]) [4] rfl (fun _ => rfl) ?_
    refine nx_next ?_
    refine at_ret ?_
    refine nx_end1 (H' := _) rfl Tryd.results51 (fun _ => rfl) (by exact ⟨-1, rfl, by rw [hany]; rfl, rfl⟩) ?hp_4
    case hp_4 => repeat (first | exact Sub.refl _ | exact Sub.nil _ | refine Sub.cons (by repeat (first | exact One.here _ _ | apply One.there)) ?_ | refine Sub.drop _ ?_)

theorem contains_some (g cap : Nat) (cur : Array Value) (T : TypeId) (z : Nat × Nat) (ls : List (List UInt8)) (hin : CellsIn cur 0 (ls.map strV)) (hn : ls.length ≤ 1073741824) :
    DoesR Tryd.prog 29 #[.slice (some ⟨g, 0, none⟩) ls.length cap, .func (.func 28) #[] #[]] [[(g, .cells cur T z)]] (.bool (ls.any isLong)) := by
  refine spec_enter Tryd.func29 rfl Tryd.ntmps29 rfl ?_
  intro u R
  refine at_slots (env' := [(0, _), (1, _)]) [0, 1] rfl (fun _ => rfl) ?_
  refine at_seq ?_
  refine at_region ?_
  refine op_w (p_assign (fun _ => rfl)) rfl rfl ?_
  refine ops_nil ?_
  refine nx_slots (env' := [(0, _), (1, _)]) [0, 1] rfl (fun _ => rfl) ?_
  refine nx_next ?_
  refine at_seq ?_
  refine at_region ?_
  refine op_w (p_move (fun _ => rfl)) rfl rfl ?_
  refine op_w (p_move (fun _ => rfl)) rfl rfl ?_
  refine ops_eff (fun _ => rfl) (fits_of rfl) rfl (w_call (vs := [_, _]) (fun _ => rfl) Tryd.call51 (fun _ => rfl) rfl (index_some g cap cur T z ls hin hn) (by repeat (first | exact Pull.nil _ | (apply Pull.cons; (focus (repeat (first | exact One.here _ _ | apply One.there))))))) ?_ no_pan
  rintro _ _ ⟨_, ⟨k, rfl, hk, rfl⟩, rfl⟩
  first | refine op_w (p_geq_nat (n := 0) (fun _ => rfl) (fun _ => rfl)) rfl rfl ?_ | refine op_w (p_geq (fun _ => rfl) (fun _ => rfl)) rfl rfl ?_
  refine op_w (p_assign (fun _ => rfl)) rfl rfl ?_
  refine ops_nil ?_
  refine nx_slots (env' := [(4, _)]) [4] rfl (fun _ => rfl) ?_
  refine nx_next ?_
  refine at_ret ?_
  refine nx_end1 (H' := _) rfl Tryd.results29 (fun _ => rfl) (by exact ⟨by rw [← hk], rfl⟩) ?hp_1
  case hp_1 => repeat (first | exact Sub.refl _ | exact Sub.nil _ | refine Sub.cons (by repeat (first | exact One.here _ _ | apply One.there)) ?_ | refine Sub.drop _ ?_)

end Go.Proofs.YtddblcjcodejaaaDoor
