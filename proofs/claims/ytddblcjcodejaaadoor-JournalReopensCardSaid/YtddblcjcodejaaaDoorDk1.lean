/- Contracts: package disk. -/
import Derived.Test.YtddblcjcodejaaaDoorWi2
import Derived.Test.YtddblcjcodejaaaDoorEx8
namespace Go.Proofs.YtddblcjcodejaaaDoor
open Go Go.RowKit Gw
set_option linter.unusedVariables false
set_option maxRecDepth 100000
attribute [local irreducible] Gw.At Gw.Nx Gw.Ops
/-- The cells of a disk. -/
abbrev dkc (off : Bool) (left : Nat) (bd bv n : Nat) (pv : Value) : Array Value := #[.bool off, .int .i64 (left : Int), .slice (some ⟨bd, 0, none⟩) n n, .slice (some ⟨bv, 0, none⟩) n n, pv]
abbrev byc (l : List UInt8) : Array Value := (l.map u8v).toArray
/-- s is laid over l from o on. -/
def splice (l : List UInt8) (o : Nat) (s : List UInt8) : List UInt8 := l.take o ++ s ++ l.drop (o + s.length)
theorem splice_len (l : List UInt8) (o : Nat) (s : List UInt8) (h : o + s.length ≤ l.length) : (splice l o s).length = l.length := by unfold splice; simp; omega
theorem over_splice (l : List UInt8) (o : Nat) (s : List UInt8) : over (byc l) o (s.map u8v) = byc (splice l o s) := by
  unfold over byc splice
  simp [List.map_take, List.map_drop]
theorem byc_size (l : List UInt8) : (byc l).size = l.length := by simp [byc]
theorem rep_u8 (n : Nat) : (List.replicate n (Value.int .u8 0)).toArray = byc (List.replicate n 0) := by simp [byc, u8v]
/-- What a write leaves of the power. -/
def usedOff (off : Bool) (left : Nat) : Bool := if left = 0 then off else decide (left - 1 = 0)
def usedLeft (left : Nat) : Nat := left - 1
theorem used_cells (off : Bool) (left bd bv n : Nat) (pv : Value) (h : ¬ left = 0) : ((dkc off left bd bv n pv).setIfInBounds 1 (.int .i64 ((left - 1 : Nat) : Int))).setIfInBounds 0 (.bool (decide (left - 1 = 0))) = dkc (usedOff off left) (usedLeft left) bd bv n pv := by
  unfold usedOff; rw [if_neg h]; rfl

theorem check_on (dp left bd bv n : Nat) (pv : Value) (Td : TypeId) : DoesR Tryd.prog 34 #[.pointer (some ⟨dp, 0, none⟩)] [[(dp, .cells (dkc false left bd bv n pv) Td (0, 0))]] (.int .i64 0) := by
  refine spec_enter Tryd.func34 rfl Tryd.ntmps34 rfl ?_
  intro u R
  refine at_slots (env' := [(0, _)]) [0] rfl (fun _ => rfl) ?_
  refine at_seq ?_
  refine at_region ?_
  refine op_w (p_assign (fun _ => rfl)) rfl rfl ?_
  refine ops_nil ?_
  refine nx_slots (env' := [(0, _)]) [0] rfl (fun _ => rfl) ?_
  refine nx_next ?_
  refine at_seq ?_
  refine at_block ?_
  refine at_seq ?_
  refine at_region ?_
  refine op_w (p_move (fun _ => rfl)) rfl rfl ?_
  first | refine op_w (p_eql_nil_nil Tryd.underlying24 (fun _ => rfl) (fun _ => rfl)) rfl rfl ?_ | refine op_w (p_eql_ptr_nil Tryd.underlying24 (fun _ => rfl) (fun _ => rfl)) rfl rfl ?_
  refine op_w (p_assign (fun _ => rfl)) rfl rfl ?_
  refine ops_nil ?_
  refine nx_slots (env' := [(0, _), (3, _)]) [0, 3] rfl (fun _ => rfl) ?_
  refine nx_next ?_
  refine at_if_bool (fun _ => rfl) (fun hc1 => ?_) (fun hc1 => ?_)
  ·
    cases hc1
  ·
    refine at_seq ?_
    refine at_region ?_
    refine op_w (p_move (fun _ => rfl)) rfl rfl ?_
    first | refine op_w (p_nilCheck (fun _ => rfl)) rfl rfl ?_ | refine op_w (p_nilCheck_iface (fun _ => rfl)) rfl rfl ?_
    first | refine op_w (p_fieldAddr0 (off := 0) Tryd.underlying51 rfl rfl Tryd.sizeOf48 (fun _ => rfl)) rfl rfl ?_ | refine op_w (p_fieldAddr1 (off := 0) Tryd.underlying51 rfl rfl Tryd.sizeOf48 (fun _ => rfl)) rfl rfl ?_
    first | refine op_w (p_fieldAddr0 (off := 0) Tryd.underlying48 rfl rfl Tryd.sizeOf4 (fun _ => rfl)) rfl rfl ?_ | refine op_w (p_fieldAddr1 (off := 0) Tryd.underlying48 rfl rfl Tryd.sizeOf4 (fun _ => rfl)) rfl rfl ?_
    refine op_r (by repeat (first | exact Has.here _ | apply Has.there)) (p_load Tryd.isAgg4 (fun _ => rfl) (by rfl)) rfl rfl ?_
    refine op_w (p_assign (fun _ => rfl)) rfl rfl ?_
    refine ops_nil ?_
    refine nx_slots (env' := [(6, _)]) [6] rfl (fun _ => rfl) ?_
    refine nx_next ?_
    refine at_if_bool (fun _ => rfl) (fun hc2 => ?_) (fun hc2 => ?_)
    ·
      cases hc2
    ·
      refine at_skip ?_
      refine nx_block_normal ?_
      refine nx_next ?_
      refine at_seq ?_
      refine at_region ?_
      refine op_w (p_assign (fun _ => rfl)) rfl rfl ?_
      refine ops_nil ?_
      refine nx_slots (env' := [(2, _)]) [2] rfl (fun _ => rfl) ?_
      refine nx_next ?_
      refine at_ret ?_
      refine nx_end1 (H' := _) rfl Tryd.results34 (fun _ => rfl) (by exact ⟨rfl, rfl⟩) ?hp_1
      case hp_1 => repeat (first | exact Sub.refl _ | exact Sub.nil _ | refine Sub.cons (by repeat (first | exact One.here _ _ | apply One.there)) ?_ | refine Sub.drop _ ?_)

theorem check_off (dp left bd bv n : Nat) (pv : Value) (Td : TypeId) : DoesR Tryd.prog 34 #[.pointer (some ⟨dp, 0, none⟩)] [[(dp, .cells (dkc true left bd bv n pv) Td (0, 0))]] (.int .i64 221) := by
  refine spec_enter Tryd.func34 rfl Tryd.ntmps34 rfl ?_
  intro u R
  refine at_slots (env' := [(0, _)]) [0] rfl (fun _ => rfl) ?_
  refine at_seq ?_
  refine at_region ?_
  refine op_w (p_assign (fun _ => rfl)) rfl rfl ?_
  refine ops_nil ?_
  refine nx_slots (env' := [(0, _)]) [0] rfl (fun _ => rfl) ?_
  refine nx_next ?_
  refine at_seq ?_
  refine at_block ?_
  refine at_seq ?_
  refine at_region ?_
  refine op_w (p_move (fun _ => rfl)) rfl rfl ?_
  first | refine op_w (p_eql_nil_nil Tryd.underlying24 (fun _ => rfl) (fun _ => rfl)) rfl rfl ?_ | refine op_w (p_eql_ptr_nil Tryd.underlying24 (fun _ => rfl) (fun _ => rfl)) rfl rfl ?_
  refine op_w (p_assign (fun _ => rfl)) rfl rfl ?_
  refine ops_nil ?_
  refine nx_slots (env' := [(0, _), (3, _)]) [0, 3] rfl (fun _ => rfl) ?_
  refine nx_next ?_
  refine at_if_bool (fun _ => rfl) (fun hc1 => ?_) (fun hc1 => ?_)
  ·
    cases hc1
  ·
    refine at_seq ?_
    refine at_region ?_
    refine op_w (p_move (fun _ => rfl)) rfl rfl ?_
    first | refine op_w (p_nilCheck (fun _ => rfl)) rfl rfl ?_ | refine op_w (p_nilCheck_iface (fun _ => rfl)) rfl rfl ?_
    first | refine op_w (p_fieldAddr0 (off := 0) Tryd.underlying51 rfl rfl Tryd.sizeOf48 (fun _ => rfl)) rfl rfl ?_ | refine op_w (p_fieldAddr1 (off := 0) Tryd.underlying51 rfl rfl Tryd.sizeOf48 (fun _ => rfl)) rfl rfl ?_
    first | refine op_w (p_fieldAddr0 (off := 0) Tryd.underlying48 rfl rfl Tryd.sizeOf4 (fun _ => rfl)) rfl rfl ?_ | refine op_w (p_fieldAddr1 (off := 0) Tryd.underlying48 rfl rfl Tryd.sizeOf4 (fun _ => rfl)) rfl rfl ?_
    refine op_r (by repeat (first | exact Has.here _ | apply Has.there)) (p_load Tryd.isAgg4 (fun _ => rfl) (by rfl)) rfl rfl ?_
    refine op_w (p_assign (fun _ => rfl)) rfl rfl ?_
    refine ops_nil ?_
    refine nx_slots (env' := [(6, _)]) [6] rfl (fun _ => rfl) ?_
    refine nx_next ?_
    refine at_if_bool (fun _ => rfl) (fun hc2 => ?_) (fun hc2 => ?_)
    ·
      refine at_seq ?_
      refine at_region ?_
      refine op_w (p_assign (fun _ => rfl)) rfl rfl ?_
      refine ops_nil ?_
      refine nx_slots (env' := [(2, _)]) [2] rfl (fun _ => rfl) ?_
      refine nx_next ?_
      refine at_ret ?_
      refine nx_block_ret ?_
      refine nx_thru (by intro h; cases h) ?_
      refine nx_end1 (H' := _) rfl Tryd.results34 (fun _ => rfl) (by exact ⟨rfl, rfl⟩) ?hp_1
      case hp_1 => repeat (first | exact Sub.refl _ | exact Sub.nil _ | refine Sub.cons (by repeat (first | exact One.here _ _ | apply One.there)) ?_ | refine Sub.drop _ ?_)
    ·
      cases hc2

theorem inside_yes (off : Bool) (a m : Nat) (dp left bd bv n : Nat) (pv : Value) (Td : TypeId) (h : a + m ≤ n) (hn : n ≤ 4194304) : DoesR Tryd.prog 35 #[.pointer (some ⟨dp, 0, none⟩), .int .i64 (a : Int), .int .i64 (m : Int)] [[(dp, .cells (dkc off left bd bv n pv) Td (0, 0))]] (.bool true) := by
  refine spec_enter Tryd.func35 rfl Tryd.ntmps35 rfl ?_
  intro u R
  refine at_slots (env' := [(0, _), (1, _), (2, _)]) [0, 1, 2] rfl (fun _ => rfl) ?_
  refine at_seq ?_
  refine at_region ?_
  refine op_w (p_assign (fun _ => rfl)) rfl rfl ?_
  refine ops_nil ?_
  refine nx_slots (env' := [(0, _), (1, _), (2, _)]) [0, 1, 2] rfl (fun _ => rfl) ?_
  refine nx_next ?_
  refine at_seq ?_
  refine at_region ?_
  refine op_w (p_move (fun _ => rfl)) rfl rfl ?_
  first | refine op_w (p_geq_nat (n := 0) (fun _ => rfl) (fun _ => rfl)) rfl rfl ?_ | refine op_w (p_geq (fun _ => rfl) (fun _ => rfl)) rfl rfl ?_
  refine op_w (p_move (fun _ => rfl)) rfl rfl ?_
  first | refine ops_split (t := 9) (fun _ => rfl) rfl (fun hc1 => ?_) (fun hc1 => ?_) | refine ops_split_bool (t := 9) (fun _ => rfl) rfl (fun hc1 => ?_) (fun hc1 => ?_)
  ·
    refine op_wg (fun _ => rfl) (p_move (fun _ => rfl)) rfl rfl ?_
    first | refine op_wg (fun _ => rfl) (p_geq_nat (n := 0) (fun _ => rfl) (fun _ => rfl)) rfl rfl ?_ | refine op_wg (fun _ => rfl) (p_geq (fun _ => rfl) (fun _ => rfl)) rfl rfl ?_
    refine op_w (p_pick_t (fun _ => rfl) (fun _ => rfl)) rfl rfl ?_
    refine op_w (p_move (fun _ => rfl)) rfl rfl ?_
    first | refine ops_split (t := 13) (fun _ => rfl) rfl (fun hc2 => ?_) (fun hc2 => ?_) | refine ops_split_bool (t := 13) (fun _ => rfl) rfl (fun hc2 => ?_) (fun hc2 => ?_)
    ·
      refine op_wg (fun _ => rfl) (p_move (fun _ => rfl)) rfl rfl ?_
      refine op_wg (fun _ => rfl) (p_move (fun _ => rfl)) rfl rfl ?_
      first | refine op_wg (fun _ => rfl) (p_nilCheck (fun _ => rfl)) rfl rfl ?_ | refine op_wg (fun _ => rfl) (p_nilCheck_iface (fun _ => rfl)) rfl rfl ?_
      first | refine op_wg (fun _ => rfl) (p_fieldAddr0 (off := 2) Tryd.underlying51 rfl rfl Tryd.sizeOf38 (fun _ => rfl)) rfl rfl ?_ | refine op_wg (fun _ => rfl) (p_fieldAddr1 (off := 2) Tryd.underlying51 rfl rfl Tryd.sizeOf38 (fun _ => rfl)) rfl rfl ?_
      refine op_rg (fun _ => rfl) (by repeat (first | exact Has.here _ | apply Has.there)) (p_load Tryd.isAgg38 (fun _ => rfl) (by rfl)) rfl rfl ?_
      refine op_wg (fun _ => rfl) (p_len_slice Tryd.underlying38 (fun _ => rfl)) rfl rfl ?_
      first | refine op_wg (fun _ => rfl) (p_leq_nat (fun _ => rfl) (fun _ => rfl)) rfl rfl ?_ | refine op_wg (fun _ => rfl) (p_leq (fun _ => rfl) (fun _ => rfl)) rfl rfl ?_
      refine op_w (p_pick_t (fun _ => rfl) (fun _ => rfl)) rfl rfl ?_
      refine op_w (p_move (fun _ => rfl)) rfl rfl ?_
      first | refine ops_split (t := 22) (fun _ => rfl) rfl (fun hc3 => ?_) (fun hc3 => ?_) | refine ops_split_bool (t := 22) (fun _ => rfl) rfl (fun hc3 => ?_) (fun hc3 => ?_)
      ·
        refine op_wg (fun _ => rfl) (p_move (fun _ => rfl)) rfl rfl ?_
        refine op_wg (fun _ => rfl) (p_move (fun _ => rfl)) rfl rfl ?_
        first | refine op_wg (fun _ => rfl) (p_nilCheck (fun _ => rfl)) rfl rfl ?_ | refine op_wg (fun _ => rfl) (p_nilCheck_iface (fun _ => rfl)) rfl rfl ?_
        first | refine op_wg (fun _ => rfl) (p_fieldAddr0 (off := 2) Tryd.underlying51 rfl rfl Tryd.sizeOf38 (fun _ => rfl)) rfl rfl ?_ | refine op_wg (fun _ => rfl) (p_fieldAddr1 (off := 2) Tryd.underlying51 rfl rfl Tryd.sizeOf38 (fun _ => rfl)) rfl rfl ?_
        refine op_rg (fun _ => rfl) (by repeat (first | exact Has.here _ | apply Has.there)) (p_load Tryd.isAgg38 (fun _ => rfl) (by rfl)) rfl rfl ?_
        refine op_wg (fun _ => rfl) (p_len_slice Tryd.underlying38 (fun _ => rfl)) rfl rfl ?_
        refine op_wg (fun _ => rfl) (p_move (fun _ => rfl)) rfl rfl ?_
        first | (refine op_wg (fun _ => rfl) (p_sub_nat (fun _ => rfl) (fun _ => rfl) ?_ ?_) rfl rfl ?_; (focus (omega)); (focus (omega))) | (refine op_wg (fun _ => rfl) (p_sub (fun _ => rfl) (fun _ => rfl) (IntWalk.i64_in _ ?_)) rfl rfl ?_; (focus (omega)))
        first | refine op_wg (fun _ => rfl) (p_leq_nat (fun _ => rfl) (fun _ => rfl)) rfl rfl ?_ | refine op_wg (fun _ => rfl) (p_leq (fun _ => rfl) (fun _ => rfl)) rfl rfl ?_
        refine op_w (p_pick_t (fun _ => rfl) (fun _ => rfl)) rfl rfl ?_
        refine op_w (p_assign (fun _ => rfl)) rfl rfl ?_
        refine ops_nil ?_
        refine nx_slots (env' := [(6, _)]) [6] rfl (fun _ => rfl) ?_
        refine nx_next ?_
        refine at_ret ?_
        refine nx_end1 (H' := _) rfl Tryd.results35 (fun _ => rfl) (by exact ⟨by first | rfl | (simp; omega) | (exfalso; omega) | (congr 1; simp; omega), rfl⟩) ?hp_1
        case hp_1 => repeat (first | exact Sub.refl _ | exact Sub.nil _ | refine Sub.cons (by repeat (first | exact One.here _ _ | apply One.there)) ?_ | refine Sub.drop _ ?_)
      ·
        refine op_skip (fun _ => rfl) rfl ?_
        refine op_skip (fun _ => rfl) rfl ?_
        refine op_skip (fun _ => rfl) rfl ?_
        refine op_skip (fun _ => rfl) rfl ?_
        refine op_skip (fun _ => rfl) rfl ?_
        refine op_skip (fun _ => rfl) rfl ?_
        refine op_skip (fun _ => rfl) rfl ?_
        refine op_skip (fun _ => rfl) rfl ?_
        refine op_skip (fun _ => rfl) rfl ?_
        refine op_w (p_pick_f (fun _ => rfl) (fun _ => rfl)) rfl rfl ?_
        refine op_w (p_assign (fun _ => rfl)) rfl rfl ?_
        refine ops_nil ?_
        refine nx_slots (env' := [(6, _)]) [6] rfl (fun _ => rfl) ?_
        refine nx_next ?_
        refine at_ret ?_
        refine nx_end1 (H' := _) rfl Tryd.results35 (fun _ => rfl) (by exact ⟨by first | rfl | (simp; omega) | (exfalso; omega) | (congr 1; simp; omega), rfl⟩) ?hp_2
        case hp_2 => repeat (first | exact Sub.refl _ | exact Sub.nil _ | refine Sub.cons (by repeat (first | exact One.here _ _ | apply One.there)) ?_ | refine Sub.drop _ ?_)
    ·
      refine op_skip (fun _ => rfl) rfl ?_
      refine op_skip (fun _ => rfl) rfl ?_
      refine op_skip (fun _ => rfl) rfl ?_
      refine op_skip (fun _ => rfl) rfl ?_
      refine op_skip (fun _ => rfl) rfl ?_
      refine op_skip (fun _ => rfl) rfl ?_
      refine op_skip (fun _ => rfl) rfl ?_
      refine op_w (p_pick_f (fun _ => rfl) (fun _ => rfl)) rfl rfl ?_
      refine op_w (p_move (fun _ => rfl)) rfl rfl ?_
      refine op_skip (fun _ => rfl) rfl ?_
      refine op_skip (fun _ => rfl) rfl ?_
      refine op_skip (fun _ => rfl) rfl ?_
      refine op_skip (fun _ => rfl) rfl ?_
      refine op_skip (fun _ => rfl) rfl ?_
      refine op_skip (fun _ => rfl) rfl ?_
      refine op_skip (fun _ => rfl) rfl ?_
      refine op_skip (fun _ => rfl) rfl ?_
      refine op_skip (fun _ => rfl) rfl ?_
      refine op_w (p_pick_f (fun _ => rfl) (fun _ => rfl)) rfl rfl ?_
      refine op_w (p_assign (fun _ => rfl)) rfl rfl ?_
      refine ops_nil ?_
      refine nx_slots (env' := [(6, _)]) [6] rfl (fun _ => rfl) ?_
      refine nx_next ?_
      refine at_ret ?_
      refine nx_end1 (H' := _) rfl Tryd.results35 (fun _ => rfl) (by exact ⟨by first | rfl | (simp; omega) | (exfalso; omega) | (congr 1; simp; omega), rfl⟩) ?hp_3
      case hp_3 => repeat (first | exact Sub.refl _ | exact Sub.nil _ | refine Sub.cons (by repeat (first | exact One.here _ _ | apply One.there)) ?_ | refine Sub.drop _ ?_)
  ·
    refine op_skip (fun _ => rfl) rfl ?_
    refine op_skip (fun _ => rfl) rfl ?_
    refine op_w (p_pick_f (fun _ => rfl) (fun _ => rfl)) rfl rfl ?_
    refine op_w (p_move (fun _ => rfl)) rfl rfl ?_
    refine op_skip (fun _ => rfl) rfl ?_
    refine op_skip (fun _ => rfl) rfl ?_
    refine op_skip (fun _ => rfl) rfl ?_
    refine op_skip (fun _ => rfl) rfl ?_
    refine op_skip (fun _ => rfl) rfl ?_
    refine op_skip (fun _ => rfl) rfl ?_
    refine op_skip (fun _ => rfl) rfl ?_
    refine op_w (p_pick_f (fun _ => rfl) (fun _ => rfl)) rfl rfl ?_
    refine op_w (p_move (fun _ => rfl)) rfl rfl ?_
    refine op_skip (fun _ => rfl) rfl ?_
    refine op_skip (fun _ => rfl) rfl ?_
    refine op_skip (fun _ => rfl) rfl ?_
    refine op_skip (fun _ => rfl) rfl ?_
    refine op_skip (fun _ => rfl) rfl ?_
    refine op_skip (fun _ => rfl) rfl ?_
    refine op_skip (fun _ => rfl) rfl ?_
    refine op_skip (fun _ => rfl) rfl ?_
    refine op_skip (fun _ => rfl) rfl ?_
    refine op_w (p_pick_f (fun _ => rfl) (fun _ => rfl)) rfl rfl ?_
    refine op_w (p_assign (fun _ => rfl)) rfl rfl ?_
    refine ops_nil ?_
    refine nx_slots (env' := [(6, _)]) [6] rfl (fun _ => rfl) ?_
    refine nx_next ?_
    refine at_ret ?_
    refine nx_end1 (H' := _) rfl Tryd.results35 (fun _ => rfl) (by exact ⟨by first | rfl | (simp; omega) | (exfalso; omega) | (congr 1; simp; omega), rfl⟩) ?hp_4
    case hp_4 => repeat (first | exact Sub.refl _ | exact Sub.nil _ | refine Sub.cons (by repeat (first | exact One.here _ _ | apply One.there)) ?_ | refine Sub.drop _ ?_)

theorem size_spec (off : Bool) (dp left bd bv n : Nat) (pv : Value) (Td : TypeId) : DoesR Tryd.prog 21 #[.pointer (some ⟨dp, 0, none⟩)] [[(dp, .cells (dkc off left bd bv n pv) Td (0, 0))]] (.int .i64 (n : Int)) := by
  refine spec_enter Tryd.func21 rfl Tryd.ntmps21 rfl ?_
  intro u R
  refine at_slots (env' := [(0, _)]) [0] rfl (fun _ => rfl) ?_
  refine at_seq ?_
  refine at_region ?_
  refine op_w (p_assign (fun _ => rfl)) rfl rfl ?_
  refine ops_nil ?_
  refine nx_slots (env' := [(0, _)]) [0] rfl (fun _ => rfl) ?_
  refine nx_next ?_
  refine at_seq ?_
  refine at_seq ?_
  refine at_region ?_
  refine op_w (p_move (fun _ => rfl)) rfl rfl ?_
  first | refine op_w (p_eql_nil_nil Tryd.underlying24 (fun _ => rfl) (fun _ => rfl)) rfl rfl ?_ | refine op_w (p_eql_ptr_nil Tryd.underlying24 (fun _ => rfl) (fun _ => rfl)) rfl rfl ?_
  refine ops_nil ?_
  refine nx_slots (env' := [(0, _), (4, _)]) [0, 4] rfl (fun _ => rfl) ?_
  refine nx_next ?_
  refine at_if_bool (fun _ => rfl) (fun hc1 => ?_) (fun hc1 => ?_)
  ·
    cases hc1
  ·
    refine at_skip ?_
    refine nx_next ?_
    refine at_seq ?_
    refine at_region ?_
    refine op_w (p_move (fun _ => rfl)) rfl rfl ?_
    first | refine op_w (p_nilCheck (fun _ => rfl)) rfl rfl ?_ | refine op_w (p_nilCheck_iface (fun _ => rfl)) rfl rfl ?_
    first | refine op_w (p_fieldAddr0 (off := 2) Tryd.underlying51 rfl rfl Tryd.sizeOf38 (fun _ => rfl)) rfl rfl ?_ | refine op_w (p_fieldAddr1 (off := 2) Tryd.underlying51 rfl rfl Tryd.sizeOf38 (fun _ => rfl)) rfl rfl ?_
    refine op_r (by repeat (first | exact Has.here _ | apply Has.there)) (p_load Tryd.isAgg38 (fun _ => rfl) (by rfl)) rfl rfl ?_
    refine op_w (p_len_slice Tryd.underlying38 (fun _ => rfl)) rfl rfl ?_
    refine op_w (p_assign (fun _ => rfl)) rfl rfl ?_
    refine ops_nil ?_
    refine nx_slots (env' := [(2, _)]) [2] rfl (fun _ => rfl) ?_
    refine nx_next ?_
    refine at_ret ?_
    refine nx_end1 (H' := _) rfl Tryd.results21 (fun _ => rfl) (by exact ⟨rfl, rfl⟩) ?hp_1
    case hp_1 => repeat (first | exact Sub.refl _ | exact Sub.nil _ | refine Sub.cons (by repeat (first | exact One.here _ _ | apply One.there)) ?_ | refine Sub.drop _ ?_)

theorem pending_spec (off : Bool) (dp left bd bv n k c : Nat) (b : Option Addr) (Td : TypeId) : DoesR Tryd.prog 17 #[.pointer (some ⟨dp, 0, none⟩)] [[(dp, .cells (dkc off left bd bv n (.slice b k c)) Td (0, 0))]] (.int .i64 (k : Int)) := by
  refine spec_enter Tryd.func17 rfl Tryd.ntmps17 rfl ?_
  intro u R
  refine at_slots (env' := [(0, _)]) [0] rfl (fun _ => rfl) ?_
  refine at_seq ?_
  refine at_region ?_
  refine op_w (p_assign (fun _ => rfl)) rfl rfl ?_
  refine ops_nil ?_
  refine nx_slots (env' := [(0, _)]) [0] rfl (fun _ => rfl) ?_
  refine nx_next ?_
  refine at_seq ?_
  refine at_seq ?_
  refine at_region ?_
  refine op_w (p_move (fun _ => rfl)) rfl rfl ?_
  first | refine op_w (p_eql_nil_nil Tryd.underlying24 (fun _ => rfl) (fun _ => rfl)) rfl rfl ?_ | refine op_w (p_eql_ptr_nil Tryd.underlying24 (fun _ => rfl) (fun _ => rfl)) rfl rfl ?_
  refine ops_nil ?_
  refine nx_slots (env' := [(0, _), (4, _)]) [0, 4] rfl (fun _ => rfl) ?_
  refine nx_next ?_
  refine at_if_bool (fun _ => rfl) (fun hc1 => ?_) (fun hc1 => ?_)
  ·
    cases hc1
  ·
    refine at_skip ?_
    refine nx_next ?_
    refine at_seq ?_
    refine at_region ?_
    refine op_w (p_move (fun _ => rfl)) rfl rfl ?_
    first | refine op_w (p_nilCheck (fun _ => rfl)) rfl rfl ?_ | refine op_w (p_nilCheck_iface (fun _ => rfl)) rfl rfl ?_
    first | refine op_w (p_fieldAddr0 (off := 4) Tryd.underlying51 rfl rfl Tryd.sizeOf49 (fun _ => rfl)) rfl rfl ?_ | refine op_w (p_fieldAddr1 (off := 4) Tryd.underlying51 rfl rfl Tryd.sizeOf49 (fun _ => rfl)) rfl rfl ?_
    refine op_r (by repeat (first | exact Has.here _ | apply Has.there)) (p_load Tryd.isAgg49 (fun _ => rfl) (by rfl)) rfl rfl ?_
    refine op_w (p_len_slice Tryd.underlying49 (fun _ => rfl)) rfl rfl ?_
    refine op_w (p_assign (fun _ => rfl)) rfl rfl ?_
    refine ops_nil ?_
    refine nx_slots (env' := [(2, _)]) [2] rfl (fun _ => rfl) ?_
    refine nx_next ?_
    refine at_ret ?_
    refine nx_end1 (H' := _) rfl Tryd.results17 (fun _ => rfl) (by exact ⟨rfl, rfl⟩) ?hp_1
    case hp_1 => repeat (first | exact Sub.refl _ | exact Sub.nil _ | refine Sub.cons (by repeat (first | exact One.here _ _ | apply One.there)) ?_ | refine Sub.drop _ ?_)

theorem used_spec (off : Bool) (left : Nat) (hl : left ≤ 4194304) (dp bd bv n : Nat) (pv : Value) (Td : TypeId) : Does Tryd.prog 37 #[.pointer (some ⟨dp, 0, none⟩)] [[(dp, .cells (dkc off left bd bv n pv) Td (0, 0))]] (fun r H' => r = .tuple #[] ∧ H' = [[(dp, .cells (dkc (usedOff off left) (usedLeft left) bd bv n pv) Td (0, 0))]]) := by
  refine spec_enter Tryd.func37 rfl Tryd.ntmps37 rfl ?_
  intro u R
  refine at_slots (env' := [(0, _)]) [0] rfl (fun _ => rfl) ?_
  refine at_seq ?_
  refine at_seq ?_
  refine at_region ?_
  refine op_w (p_move (fun _ => rfl)) rfl rfl ?_
  first | refine op_w (p_nilCheck (fun _ => rfl)) rfl rfl ?_ | refine op_w (p_nilCheck_iface (fun _ => rfl)) rfl rfl ?_
  first | refine op_w (p_fieldAddr0 (off := 1) Tryd.underlying48 rfl rfl Tryd.sizeOf3 (fun _ => rfl)) rfl rfl ?_ | refine op_w (p_fieldAddr1 (off := 1) Tryd.underlying48 rfl rfl Tryd.sizeOf3 (fun _ => rfl)) rfl rfl ?_
  refine op_r (by repeat (first | exact Has.here _ | apply Has.there)) (p_load Tryd.isAgg3 (fun _ => rfl) (by rfl)) rfl rfl ?_
  first | refine op_w (p_eql_nat (n := 0) (fun _ => rfl) (fun _ => rfl)) rfl rfl ?_ | refine op_w (p_eql (fun _ => rfl) (fun _ => rfl)) rfl rfl ?_
  refine ops_nil ?_
  refine nx_slots (env' := [(0, _), (6, _)]) [0, 6] rfl (fun _ => rfl) ?_
  refine nx_next ?_
  first | refine at_if (fun _ => rfl) (fun hc1 => ?_) (fun hc1 => ?_) | refine at_if_bool (fun _ => rfl) (fun hc1 => ?_) (fun hc1 => ?_)
  ·
    subst hc1
    refine at_ret ?_
    refine nx_thru (by intro h; cases h) ?_
    refine nx_end0 (H' := _) rfl Tryd.results37 (by exact ⟨rfl, (rfl : ([[(dp, Obj.cells (dkc off 0 bd bv n pv) Td (0, 0))]] : Hp) = _)⟩) ?hp_1
    case hp_1 => repeat (first | exact Sub.refl _ | exact Sub.nil _ | refine Sub.cons (by repeat (first | exact One.here _ _ | apply One.there)) ?_ | refine Sub.drop _ ?_)
  ·
    refine at_skip ?_
    refine nx_next ?_
    refine at_seq ?_
    refine at_region ?_
    refine op_w (p_move (fun _ => rfl)) rfl rfl ?_
    first | refine op_w (p_nilCheck (fun _ => rfl)) rfl rfl ?_ | refine op_w (p_nilCheck_iface (fun _ => rfl)) rfl rfl ?_
    first | refine op_w (p_fieldAddr0 (off := 1) Tryd.underlying48 rfl rfl Tryd.sizeOf3 (fun _ => rfl)) rfl rfl ?_ | refine op_w (p_fieldAddr1 (off := 1) Tryd.underlying48 rfl rfl Tryd.sizeOf3 (fun _ => rfl)) rfl rfl ?_
    refine op_r (by repeat (first | exact Has.here _ | apply Has.there)) (p_load Tryd.isAgg3 (fun _ => rfl) (by rfl)) rfl rfl ?_
    first | (refine op_w (p_sub_nat (n := 1) (fun _ => rfl) (fun _ => rfl) ?_ ?_) rfl rfl ?_; (focus (omega)); (focus (omega))) | (refine op_w (p_sub (fun _ => rfl) (fun _ => rfl) (IntWalk.i64_in _ ?_)) rfl rfl ?_; (focus (omega)))
    first | refine op_w (p_nilCheck (fun _ => rfl)) rfl rfl ?_ | refine op_w (p_nilCheck_iface (fun _ => rfl)) rfl rfl ?_
    first | refine op_w (p_fieldAddr0 (off := 1) Tryd.underlying48 rfl rfl Tryd.sizeOf3 (fun _ => rfl)) rfl rfl ?_ | refine op_w (p_fieldAddr1 (off := 1) Tryd.underlying48 rfl rfl Tryd.sizeOf3 (fun _ => rfl)) rfl rfl ?_
    refine op_e (w_store Tryd.sizeOf3 (fun _ => rfl) (fun _ => rfl) rfl (by repeat (first | exact Upd.here _ | apply Upd.there)) (by rfl) (by first | decide | exact Nat.le_refl _ | (simp; done) | (simp; omega)) (by exact free_zero _)) (fun _ => rfl) rfl rfl ?_
    rintro _ _ ⟨rfl, rfl⟩
    refine ops_nil ?_
    refine nx_slots (env' := [(0, _)]) [0] rfl (fun _ => rfl) ?_
    refine nx_next ?_
    refine at_region ?_
    refine op_w (p_move (fun _ => rfl)) rfl rfl ?_
    refine op_w (p_move (fun _ => rfl)) rfl rfl ?_
    first | refine op_w (p_nilCheck (fun _ => rfl)) rfl rfl ?_ | refine op_w (p_nilCheck_iface (fun _ => rfl)) rfl rfl ?_
    first | refine op_w (p_fieldAddr0 (off := 1) Tryd.underlying48 rfl rfl Tryd.sizeOf3 (fun _ => rfl)) rfl rfl ?_ | refine op_w (p_fieldAddr1 (off := 1) Tryd.underlying48 rfl rfl Tryd.sizeOf3 (fun _ => rfl)) rfl rfl ?_
    refine op_r (by repeat (first | exact Has.here _ | apply Has.there)) (p_load Tryd.isAgg3 (fun _ => rfl) (by rfl)) rfl rfl ?_
    first | refine op_w (p_eql_nat (n := 0) (fun _ => rfl) (fun _ => rfl)) rfl rfl ?_ | refine op_w (p_eql (fun _ => rfl) (fun _ => rfl)) rfl rfl ?_
    first | refine op_w (p_nilCheck (fun _ => rfl)) rfl rfl ?_ | refine op_w (p_nilCheck_iface (fun _ => rfl)) rfl rfl ?_
    first | refine op_w (p_fieldAddr0 (off := 0) Tryd.underlying48 rfl rfl Tryd.sizeOf4 (fun _ => rfl)) rfl rfl ?_ | refine op_w (p_fieldAddr1 (off := 0) Tryd.underlying48 rfl rfl Tryd.sizeOf4 (fun _ => rfl)) rfl rfl ?_
    refine op_e (w_store Tryd.sizeOf4 (fun _ => rfl) (fun _ => rfl) rfl (by repeat (first | exact Upd.here _ | apply Upd.there)) (by exact used_cells off left bd bv n pv hc1) (by first | decide | exact Nat.le_refl _ | (simp; done) | (simp; omega)) (by exact free_zero _)) (fun _ => rfl) rfl rfl ?_
    rintro _ _ ⟨rfl, rfl⟩
    refine ops_nil ?_
    refine nx_slots (env' := []) [] rfl (fun _ => rfl) ?_
    refine nx_end0 (H' := _) rfl Tryd.results37 (by exact ⟨rfl, rfl⟩) ?hp_2
    case hp_2 => repeat (first | exact Sub.refl _ | exact Sub.nil _ | refine Sub.cons (by repeat (first | exact One.here _ _ | apply One.there)) ?_ | refine Sub.drop _ ?_)

theorem cut_spec (m : Nat) (dp left bd bv n : Nat) (pv : Value) (Td : TypeId) : Does Tryd.prog 15 #[.pointer (some ⟨dp, 0, none⟩), .int .i64 (m : Int)] [[(dp, .cells (dkc false left bd bv n pv) Td (0, 0))]] (fun r H' => r = .int .i64 0 ∧ H' = [[(dp, .cells (dkc (decide (m = 0)) m bd bv n pv) Td (0, 0))]]) := by
  refine spec_enter Tryd.func15 rfl Tryd.ntmps15 rfl ?_
  intro u R
  refine at_slots (env' := [(0, _), (1, _)]) [0, 1] rfl (fun _ => rfl) ?_
  refine at_seq ?_
  refine at_region ?_
  refine op_w (p_assign (fun _ => rfl)) rfl rfl ?_
  refine ops_nil ?_
  refine nx_slots (env' := [(0, _), (1, _)]) [0, 1] rfl (fun _ => rfl) ?_
  refine nx_next ?_
  refine at_seq ?_
  refine at_seq ?_
  refine at_region ?_
  refine op_w (p_move (fun _ => rfl)) rfl rfl ?_
  refine op_e (w_callR (vs := [_]) (fun _ => rfl) Tryd.call34 (fun _ => rfl) rfl (check_on _ _ _ _ _ _ _) (by repeat (first | exact Pull.nil _ | (apply Pull.cons; (focus (repeat (first | exact One.here _ _ | apply One.there))))))) (fun _ => rfl) rfl rfl ?_
  rintro _ _ ⟨rfl, rfl⟩
  refine op_w (p_assign (fun _ => rfl)) rfl rfl ?_
  refine ops_nil ?_
  refine nx_slots (env' := [(0, _), (1, _), (5, _)]) [0, 1, 5] rfl (fun _ => rfl) ?_
  refine nx_next ?_
  refine at_seq ?_
  refine at_region ?_
  refine op_w (p_move (fun _ => rfl)) rfl rfl ?_
  first | refine op_w (p_neq_nat (n := 0) (fun _ => rfl) (fun _ => rfl)) rfl rfl ?_ | refine op_w (p_neq (fun _ => rfl) (fun _ => rfl)) rfl rfl ?_
  refine ops_nil ?_
  refine nx_slots (env' := [(0, _), (1, _), (5, _), (9, _)]) [0, 1, 5, 9] rfl (fun _ => rfl) ?_
  refine nx_next ?_
  first | refine at_if (fun _ => rfl) (fun hc1 => ?_) (fun hc1 => ?_) | refine at_if_bool (fun _ => rfl) (fun hc1 => ?_) (fun hc1 => ?_)
  ·
    exact absurd rfl hc1
  ·
    refine at_skip ?_
    refine nx_next ?_
    refine at_seq ?_
    refine at_seq ?_
    refine at_region ?_
    refine op_w (p_move (fun _ => rfl)) rfl rfl ?_
    first | refine op_w (p_lss_nat (n := 0) (fun _ => rfl) (fun _ => rfl)) rfl rfl ?_ | refine op_w (p_lss (fun _ => rfl) (fun _ => rfl)) rfl rfl ?_
    refine ops_nil ?_
    refine nx_slots (env' := [(0, _), (1, _), (12, _)]) [0, 1, 12] rfl (fun _ => rfl) ?_
    refine nx_next ?_
    first | refine at_if (fun _ => rfl) (fun hc2 => ?_) (fun hc2 => ?_) | refine at_if_bool (fun _ => rfl) (fun hc2 => ?_) (fun hc2 => ?_)
    ·
      exfalso; omega
    ·
      refine at_skip ?_
      refine nx_next ?_
      refine at_seq ?_
      refine at_region ?_
      refine op_w (p_move (fun _ => rfl)) rfl rfl ?_
      refine op_w (p_move (fun _ => rfl)) rfl rfl ?_
      first | refine op_w (p_eql_nat (n := 0) (fun _ => rfl) (fun _ => rfl)) rfl rfl ?_ | refine op_w (p_eql (fun _ => rfl) (fun _ => rfl)) rfl rfl ?_
      refine op_w (p_move (fun _ => rfl)) rfl rfl ?_
      refine op_w (p_build (vs := [(0, _), (1, _)]) (cs := #[_, _]) (fun _ => rfl) (run_build_struct (pl := #[(0, 1), (1, 1)]) Tryd.zeroValue48 Tryd.underlying48 (fun _ => by kernel_rfl) rfl)) rfl rfl ?_
      first | refine op_w (p_nilCheck (fun _ => rfl)) rfl rfl ?_ | refine op_w (p_nilCheck_iface (fun _ => rfl)) rfl rfl ?_
      first | refine op_w (p_fieldAddr0 (off := 0) Tryd.underlying51 rfl rfl Tryd.sizeOf48 (fun _ => rfl)) rfl rfl ?_ | refine op_w (p_fieldAddr1 (off := 0) Tryd.underlying51 rfl rfl Tryd.sizeOf48 (fun _ => rfl)) rfl rfl ?_
      refine op_e (w_store_agg Tryd.sizeOf48 (fun _ => rfl) (fun _ => rfl) (by simp [Value.oneCell', Value.cells]) (by repeat (first | exact Upd.here _ | apply Upd.there)) (by rfl) (by first | rfl | (simp; done)) (by first | decide | exact Nat.le_refl _ | (simp; done) | (simp; omega)) (by exact free_zero _)) (fun _ => rfl) rfl rfl ?_
      rintro _ _ ⟨rfl, rfl⟩
      refine ops_nil ?_
      refine nx_slots (env' := []) [] rfl (fun _ => rfl) ?_
      refine nx_next ?_
      refine at_seq ?_
      refine at_region ?_
      refine op_w (p_assign (fun _ => rfl)) rfl rfl ?_
      refine ops_nil ?_
      refine nx_slots (env' := [(4, _)]) [4] rfl (fun _ => rfl) ?_
      refine nx_next ?_
      refine at_ret ?_
      refine nx_end1 (H' := _) rfl Tryd.results15 (fun _ => rfl) (by exact ⟨rfl, rfl⟩) ?hp_1
      case hp_1 => repeat (first | exact Sub.refl _ | exact Sub.nil _ | refine Sub.cons (by repeat (first | exact One.here _ _ | apply One.there)) ?_ | refine Sub.drop _ ?_)

theorem disk_new (n : Nat) (h1 : 1 ≤ n) (h2 : n ≤ 4194304) : Does Tryd.prog 6 #[.int .i64 (n : Int)] [] (fun r H' => ∃ dp bd bv, r = .tuple #[.pointer (some ⟨dp, 0, none⟩), .int .i64 0] ∧ H' = [[(dp, .cells (dkc false 0 bd bv n (.slice none 0 0)) 51 (0, 0))], [(bd, .cells (List.replicate n (.int .u8 0)).toArray 5 (0, 0))], [(bv, .cells (List.replicate n (.int .u8 0)).toArray 5 (0, 0))]]) := by
  refine spec_enter Tryd.func6 rfl Tryd.ntmps6 rfl ?_
  intro u R
  refine at_slots (env' := [(0, _)]) [0] rfl (fun _ => rfl) ?_
  refine at_seq ?_
  refine at_region ?_
  refine op_w (p_assign (fun _ => rfl)) rfl rfl ?_
  refine op_w (p_assign (fun _ => rfl)) rfl rfl ?_
  refine ops_nil ?_
  refine nx_slots (env' := [(0, _)]) [0] rfl (fun _ => rfl) ?_
  refine nx_next ?_
  refine at_seq ?_
  refine at_seq ?_
  refine at_region ?_
  refine op_w (p_move (fun _ => rfl)) rfl rfl ?_
  first | refine op_w (p_lss_nat (n := 1) (fun _ => rfl) (fun _ => rfl)) rfl rfl ?_ | refine op_w (p_lss (fun _ => rfl) (fun _ => rfl)) rfl rfl ?_
  refine op_w (p_move (fun _ => rfl)) rfl rfl ?_
  first | refine ops_split (t := 6) (fun _ => rfl) rfl (fun hc1 => ?_) (fun hc1 => ?_) | refine ops_split_bool (t := 6) (fun _ => rfl) rfl (fun hc1 => ?_) (fun hc1 => ?_)
  ·
    exfalso; omega
  ·
    refine op_wg (fun _ => rfl) (p_move (fun _ => rfl)) rfl rfl ?_
    first | refine op_wg (fun _ => rfl) (p_gtr_nat (n := 4194304) (fun _ => rfl) (fun _ => rfl)) rfl rfl ?_ | refine op_wg (fun _ => rfl) (p_gtr (fun _ => rfl) (fun _ => rfl)) rfl rfl ?_
    refine op_w (p_pick_f (fun _ => rfl) (fun _ => rfl)) rfl rfl ?_
    refine ops_nil ?_
    refine nx_slots (env' := [(0, _), (9, _)]) [0, 9] rfl (fun _ => rfl) ?_
    refine nx_next ?_
    first | refine at_if (fun _ => rfl) (fun hc2 => ?_) (fun hc2 => ?_) | refine at_if_bool (fun _ => rfl) (fun hc2 => ?_) (fun hc2 => ?_)
    ·
      exfalso; omega
    ·
      refine at_skip ?_
      refine nx_next ?_
      refine at_seq ?_
      refine at_draw (n := 8) (0 :: 1 :: 0 :: 4 :: 15 :: 31 :: 63 :: 127 :: []) 42 (by kernel_rfl) (by kernel_rfl) rfl ?_
      refine lin_w (D' := 1) 0 rfl rfl rfl (p_move (fun _ => rfl)) ?_
      refine lin_w (D' := 5) 2 rfl rfl rfl (p_move (fun _ => rfl)) ?_
      refine lin_eff (l := [1, 3]) (by kernel_rfl) (by kernel_rfl) ?_
      refine each_cons (m := 1) (D' := 7) (is := []) (bs := []) (T' := []) rfl rfl rfl rfl (by kernel_rfl) rfl (w_makeSlice (by_ := 1) Tryd.underlying38 (rfl : Tryd.prog.info? 5 = some Tryd.t5) rfl rfl rfl rfl (fun _ => rfl) (fun _ => rfl) ?_ ?_ ?_) ?hk_1 (fun _ _ h => h.elim) ?hl_1
      (focus (omega))
      (focus (omega))
      (focus (omega))
      case hk_1 =>
        rintro _ _ ⟨bd, rfl, rfl⟩
        refine ⟨keep_nil, ?_⟩
        refine lin_eff (l := [3]) (by kernel_rfl) (by kernel_rfl) ?_
        refine each_cons (m := 4) (D' := 15) (is := []) (bs := []) (T' := []) rfl rfl rfl rfl (by kernel_rfl) rfl (w_makeSlice (by_ := 1) Tryd.underlying38 (rfl : Tryd.prog.info? 5 = some Tryd.t5) rfl rfl rfl rfl (fun _ => rfl) (fun _ => rfl) ?_ ?_ ?_) ?hk_2 (fun _ _ h => h.elim) ?hl_2
        (focus (omega))
        (focus (omega))
        (focus (omega))
        case hk_2 =>
          rintro _ _ ⟨bv, rfl, rfl⟩
          refine ⟨keep_nil, ?_⟩
          refine lin_w (D' := 31) 4 rfl rfl rfl (p_build (vs := [(1, _), (2, _)]) (cs := #[_, _, _, _, _]) (fun _ => rfl) (run_build_struct (pl := #[(0, 2), (2, 1), (3, 1), (4, 1)]) Tryd.zeroValue51 Tryd.underlying51 (fun _ => by kernel_rfl) rfl)) ?_
          refine lin_eff (l := [5]) (by kernel_rfl) (by kernel_rfl) ?_
          refine each_cons (m := 31) (D' := 63) (is := []) (bs := []) (T' := []) rfl rfl rfl rfl (by kernel_rfl) rfl (w_box (fun _ => rfl) (cs := #[_, _, _, _, _]) rfl) ?hk_3 (fun _ _ h => h.elim) ?hl_3
          case hk_3 =>
            rintro _ _ ⟨dp, rfl, rfl⟩
            refine ⟨keep_nil, ?_⟩
            refine lin_w (D' := 127) 6 rfl rfl rfl (p_assign (fun _ => rfl)) ?_
            refine lin_w (D' := 255) 7 rfl rfl rfl (p_assign (fun _ => rfl)) ?_
            refine lin_nil ?_
            refine nx_slots (env' := [(2, _), (3, _)]) [2, 3] rfl (fun _ => rfl) ?_
            refine nx_next ?_
            refine at_ret ?_
            refine nx_end2 (H' := _) rfl Tryd.results6 (fun _ => rfl) (fun _ => rfl) (by exact ⟨dp, bd, bv, rfl, rfl⟩) ?hp_4
            case hp_4 => repeat (first | exact Sub.refl _ | exact Sub.nil _ | refine Sub.cons (by repeat (first | exact One.here _ _ | apply One.there)) ?_ | refine Sub.drop _ ?_)
          case hl_3 =>
            exact each_nil
        case hl_2 =>
          exact each_nil
      case hl_1 =>
        refine each_cons (m := 4) (D' := 13) (is := []) (bs := []) (T' := []) rfl rfl rfl rfl (by kernel_rfl) rfl (w_makeSlice (by_ := 1) Tryd.underlying38 (rfl : Tryd.prog.info? 5 = some Tryd.t5) rfl rfl rfl rfl (fun _ => rfl) (fun _ => rfl) ?_ ?_ ?_) ?hk_5 (fun _ _ h => h.elim) ?hl_5
        (focus (omega))
        (focus (omega))
        (focus (omega))
        case hk_5 =>
          rintro _ _ ⟨bv, rfl, rfl⟩
          refine ⟨keep_nil, ?_⟩
          refine lin_eff (l := [1]) (by kernel_rfl) (by kernel_rfl) ?_
          refine each_cons (m := 1) (D' := 15) (is := []) (bs := []) (T' := []) rfl rfl rfl rfl (by kernel_rfl) rfl (w_makeSlice (by_ := 1) Tryd.underlying38 (rfl : Tryd.prog.info? 5 = some Tryd.t5) rfl rfl rfl rfl (fun _ => rfl) (fun _ => rfl) ?_ ?_ ?_) ?hk_6 (fun _ _ h => h.elim) ?hl_6
          (focus (omega))
          (focus (omega))
          (focus (omega))
          case hk_6 =>
            rintro _ _ ⟨bd, rfl, rfl⟩
            refine ⟨keep_nil, ?_⟩
            refine lin_w (D' := 31) 4 rfl rfl rfl (p_build (vs := [(1, _), (2, _)]) (cs := #[_, _, _, _, _]) (fun _ => rfl) (run_build_struct (pl := #[(0, 2), (2, 1), (3, 1), (4, 1)]) Tryd.zeroValue51 Tryd.underlying51 (fun _ => by kernel_rfl) rfl)) ?_
            refine lin_eff (l := [5]) (by kernel_rfl) (by kernel_rfl) ?_
            refine each_cons (m := 31) (D' := 63) (is := []) (bs := []) (T' := []) rfl rfl rfl rfl (by kernel_rfl) rfl (w_box (fun _ => rfl) (cs := #[_, _, _, _, _]) rfl) ?hk_7 (fun _ _ h => h.elim) ?hl_7
            case hk_7 =>
              rintro _ _ ⟨dp, rfl, rfl⟩
              refine ⟨keep_nil, ?_⟩
              refine lin_w (D' := 127) 6 rfl rfl rfl (p_assign (fun _ => rfl)) ?_
              refine lin_w (D' := 255) 7 rfl rfl rfl (p_assign (fun _ => rfl)) ?_
              refine lin_nil ?_
              refine nx_slots (env' := [(2, _), (3, _)]) [2, 3] rfl (fun _ => rfl) ?_
              refine nx_next ?_
              refine at_ret ?_
              refine nx_end2 (H' := _) rfl Tryd.results6 (fun _ => rfl) (fun _ => rfl) (by exact ⟨dp, bd, bv, rfl, rfl⟩) ?hp_8
              case hp_8 => repeat (first | exact Sub.refl _ | exact Sub.nil _ | refine Sub.cons (by repeat (first | exact One.here _ _ | apply One.there)) ?_ | refine Sub.drop _ ?_)
            case hl_7 =>
              exact each_nil
          case hl_6 =>
            exact each_nil
        case hl_5 =>
          exact each_nil

end Go.Proofs.YtddblcjcodejaaaDoor
