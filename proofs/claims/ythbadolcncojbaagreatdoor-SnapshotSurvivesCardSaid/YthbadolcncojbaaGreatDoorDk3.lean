/- Contracts: package disk. Contracts: disk.Write, Sync, Read. Package disk over a plain state. -/
import Derived.Test.YthbadolcncojbaaGreatDoorWi2
import Derived.Test.YthbadolcncojbaaGreatDoorEx8

namespace Go.Proofs.YthbadolcncojbaaGreatDoor
open Go Go.RowKit Gw
set_option linter.unusedVariables false
set_option maxRecDepth 100000
attribute [local irreducible] Gw.At Gw.Nx Gw.Ops
/-- The cells of a disk. -/
abbrev dkc (off : Bool) (left : Nat) (bd bv n : Nat) (pv : Value) : Array Value := #[.bool off, .int .i64 (left : Int), .slice (some ⟨bd, 0, none⟩) n n, .slice (some ⟨bv, 0, none⟩) n n, pv]
abbrev byc (l : List UInt8) : Array Value := (l.map u8v).toArray
/-- s is laid over l from o on. -/
def splice (l : List UInt8) (o : Nat) (s : List UInt8) : List UInt8 := l.take o ++ s ++ l.drop (o + s.length)
theorem splice_len (l : List UInt8) (o : Nat) (s : List UInt8) (h : o + s.length ≤ l.length) : (splice l o s).length = l.length := by unfold splice; simp; omega
theorem over_splice (l : List UInt8) (o : Nat) (s : List UInt8) : over (byc l) o (s.map u8v) = byc (splice l o s) := by
  unfold over byc splice
  simp [List.map_take, List.map_drop]
theorem byc_size (l : List UInt8) : (byc l).size = l.length := by simp [byc]
theorem rep_u8 (n : Nat) : (List.replicate n (Value.int .u8 0)).toArray = byc (List.replicate n 0) := by simp [byc, u8v]
/-- What a write leaves of the power. -/
def usedOff (off : Bool) (left : Nat) : Bool := if left = 0 then off else decide (left - 1 = 0)
def usedLeft (left : Nat) : Nat := left - 1
theorem used_cells (off : Bool) (left bd bv n : Nat) (pv : Value) (h : ¬ left = 0) : ((dkc off left bd bv n pv).setIfInBounds 1 (.int .i64 ((left - 1 : Nat) : Int))).setIfInBounds 0 (.bool (decide (left - 1 = 0))) = dkc (usedOff off left) (usedLeft left) bd bv n pv := by
  unfold usedOff; rw [if_neg h]; rfl

theorem check_on (dp left bd bv n : Nat) (pv : Value) (Td : TypeId) : DoesR Tryz.prog 61 #[.pointer (some ⟨dp, 0, none⟩)] [[(dp, .cells (dkc false left bd bv n pv) Td (0, 0))]] (.int .i64 0) := by
 refine spec_enter Tryz.func61 rfl Tryz.ntmps61 rfl ?_
 intro u R
 refine at_slots (env' := [(0, _)]) [0] rfl (fun _=>rfl) ?_
 refine at_seq ?_
 refine at_region ?_
 refine op_v (p_assign (fun _=>rfl)) ?_
 refine ops_nil ?_
 refine nx_next ?_
 refine at_seq ?_
 refine at_block ?_
 refine at_seq ?_
 refine at_region ?_
 refine op_v (p_move (fun _=>rfl)) ?_
 first | refine op_v (p_eql_nil_nil Tryz.underlying26 (fun _=>rfl) (fun _=>rfl)) ?_ | refine op_v (p_eql_ptr_nil Tryz.underlying26 (fun _=>rfl) (fun _=>rfl)) ?_
 refine op_v (p_assign (fun _=>rfl)) ?_
 refine ops_nil ?_
 refine nx_next ?_
 refine at_if_bool (fun _=>rfl) (fun hc1 => ?_) (fun hc1 => ?_)
 ·
  cases hc1
 ·
  refine at_seq ?_
  refine at_region ?_
  refine op_v (p_move (fun _=>rfl)) ?_
  refine op_v (p_nilChk (fun _=>rfl) rfl) ?_
  refine op_v (p_fieldAddr0 (off := 0) Tryz.underlying103 rfl rfl Tryz.sizeOf100 (fun _=>rfl)) ?_
  refine op_v (p_fieldAddr1 (off := 0) Tryz.underlying100 rfl rfl Tryz.sizeOf4 (fun _=>rfl)) ?_
  refine op_r (by repeat (first | exact Has.here _ | apply Has.there)) (p_load Tryz.isAgg4 (fun _=>rfl) (by rfl)) rfl rfl ?_
  refine op_v (p_assign (fun _=>rfl)) ?_
  refine ops_nil ?_
  refine nx_next ?_
  refine at_if_bool (fun _=>rfl) (fun hc2 => ?_) (fun hc2 => ?_)
  ·
   cases hc2
  ·
   refine at_skip ?_
   refine nx_block_normal ?_
   refine nx_next ?_
   refine at_seq ?_
   refine at_region ?_
   refine op_v (p_assign (fun _=>rfl)) ?_
   refine ops_nil ?_
   refine nx_next ?_
   refine at_ret ?_
   refine nx_end1 (H' := _) rfl Tryz.results61 (fun _=>rfl) (by exact ⟨rfl, rfl⟩)

theorem check_off (dp left bd bv n : Nat) (pv : Value) (Td : TypeId) : DoesR Tryz.prog 61 #[.pointer (some ⟨dp, 0, none⟩)] [[(dp, .cells (dkc true left bd bv n pv) Td (0, 0))]] (.int .i64 221) := by
 refine spec_enter Tryz.func61 rfl Tryz.ntmps61 rfl ?_
 intro u R
 refine at_slots (env' := [(0, _)]) [0] rfl (fun _=>rfl) ?_
 refine at_seq ?_
 refine at_region ?_
 refine op_v (p_assign (fun _=>rfl)) ?_
 refine ops_nil ?_
 refine nx_next ?_
 refine at_seq ?_
 refine at_block ?_
 refine at_seq ?_
 refine at_region ?_
 refine op_v (p_move (fun _=>rfl)) ?_
 first | refine op_v (p_eql_nil_nil Tryz.underlying26 (fun _=>rfl) (fun _=>rfl)) ?_ | refine op_v (p_eql_ptr_nil Tryz.underlying26 (fun _=>rfl) (fun _=>rfl)) ?_
 refine op_v (p_assign (fun _=>rfl)) ?_
 refine ops_nil ?_
 refine nx_next ?_
 refine at_if_bool (fun _=>rfl) (fun hc1 => ?_) (fun hc1 => ?_)
 ·
  cases hc1
 ·
  refine at_seq ?_
  refine at_region ?_
  refine op_v (p_move (fun _=>rfl)) ?_
  refine op_v (p_nilChk (fun _=>rfl) rfl) ?_
  refine op_v (p_fieldAddr0 (off := 0) Tryz.underlying103 rfl rfl Tryz.sizeOf100 (fun _=>rfl)) ?_
  refine op_v (p_fieldAddr1 (off := 0) Tryz.underlying100 rfl rfl Tryz.sizeOf4 (fun _=>rfl)) ?_
  refine op_r (by repeat (first | exact Has.here _ | apply Has.there)) (p_load Tryz.isAgg4 (fun _=>rfl) (by rfl)) rfl rfl ?_
  refine op_v (p_assign (fun _=>rfl)) ?_
  refine ops_nil ?_
  refine nx_next ?_
  refine at_if_bool (fun _=>rfl) (fun hc2 => ?_) (fun hc2 => ?_)
  ·
   refine at_seq ?_
   refine at_region ?_
   refine op_v (p_assign (fun _=>rfl)) ?_
   refine ops_nil ?_
   refine nx_next ?_
   refine at_ret ?_
   refine nx_block_ret ?_
   refine nx_thru (by intro h; cases h) ?_
   refine nx_end1 (H' := _) rfl Tryz.results61 (fun _=>rfl) (by exact ⟨rfl, rfl⟩)
  ·
   cases hc2

theorem inside_yes (off : Bool) (a m : Nat) (dp left bd bv n : Nat) (pv : Value) (Td : TypeId) (h : a + m ≤ n) (hn : n ≤ 4194304) : DoesR Tryz.prog 62 #[.pointer (some ⟨dp, 0, none⟩), .int .i64 (a : Int), .int .i64 (m : Int)] [[(dp, .cells (dkc off left bd bv n pv) Td (0, 0))]] (.bool true) := by
 refine spec_enter Tryz.func62 rfl Tryz.ntmps62 rfl ?_
 intro u R
 refine at_slots (env' := [(0, _), (1, _), (2, _)]) [0, 1, 2] rfl (fun _=>rfl) ?_
 refine at_seq ?_
 refine at_region ?_
 refine op_v (p_assign (fun _=>rfl)) ?_
 refine ops_nil ?_
 refine nx_next ?_
 refine at_seq ?_
 refine at_region ?_
 refine op_v (p_move (fun _=>rfl)) ?_
 first | refine op_v (p_geq_nat (n := 0) (fun _=>rfl) (fun _=>rfl)) ?_ | refine op_v (p_geq (fun _=>rfl) (fun _=>rfl)) ?_
 refine op_v (p_move (fun _=>rfl)) ?_
 first | refine ops_split (t := 9) (fun _=>rfl) rfl (fun hc1 => ?_) (fun hc1 => ?_) | refine ops_split_bool (t := 9) (fun _=>rfl) rfl (fun hc1 => ?_) (fun hc1 => ?_)
 ·
  refine op_wg (fun _=>rfl) (p_move (fun _=>rfl)) rfl rfl ?_
  first | refine op_wg (fun _=>rfl) (p_geq_nat (n := 0) (fun _=>rfl) (fun _=>rfl)) rfl rfl ?_ | refine op_wg (fun _=>rfl) (p_geq (fun _=>rfl) (fun _=>rfl)) rfl rfl ?_
  refine op_v (p_pick_t (fun _=>rfl) (fun _=>rfl)) ?_
  refine op_v (p_move (fun _=>rfl)) ?_
  first | refine ops_split (t := 13) (fun _=>rfl) rfl (fun hc2 => ?_) (fun hc2 => ?_) | refine ops_split_bool (t := 13) (fun _=>rfl) rfl (fun hc2 => ?_) (fun hc2 => ?_)
  ·
   refine op_wg (fun _=>rfl) (p_move (fun _=>rfl)) rfl rfl ?_
   refine op_wg (fun _=>rfl) (p_move (fun _=>rfl)) rfl rfl ?_
   refine op_wg (fun _=>rfl) (p_nilChk (fun _=>rfl) rfl) rfl rfl ?_
   refine op_wg (fun _=>rfl) (p_fieldAddr0 (off := 2) Tryz.underlying103 rfl rfl Tryz.sizeOf36 (fun _=>rfl)) rfl rfl ?_
   refine op_rg (fun _=>rfl) (by repeat (first | exact Has.here _ | apply Has.there)) (p_load Tryz.isAgg36 (fun _=>rfl) (by rfl)) rfl rfl ?_
   refine op_wg (fun _=>rfl) (p_len_slice Tryz.underlying36 (fun _=>rfl)) rfl rfl ?_
   first | refine op_wg (fun _=>rfl) (p_leq_nat (fun _=>rfl) (fun _=>rfl)) rfl rfl ?_ | refine op_wg (fun _=>rfl) (p_leq (fun _=>rfl) (fun _=>rfl)) rfl rfl ?_
   refine op_v (p_pick_t (fun _=>rfl) (fun _=>rfl)) ?_
   refine op_v (p_move (fun _=>rfl)) ?_
   first | refine ops_split (t := 22) (fun _=>rfl) rfl (fun hc3 => ?_) (fun hc3 => ?_) | refine ops_split_bool (t := 22) (fun _=>rfl) rfl (fun hc3 => ?_) (fun hc3 => ?_)
   ·
    refine op_wg (fun _=>rfl) (p_move (fun _=>rfl)) rfl rfl ?_
    refine op_wg (fun _=>rfl) (p_move (fun _=>rfl)) rfl rfl ?_
    refine op_wg (fun _=>rfl) (p_nilChk (fun _=>rfl) rfl) rfl rfl ?_
    refine op_wg (fun _=>rfl) (p_fieldAddr0 (off := 2) Tryz.underlying103 rfl rfl Tryz.sizeOf36 (fun _=>rfl)) rfl rfl ?_
    refine op_rg (fun _=>rfl) (by repeat (first | exact Has.here _ | apply Has.there)) (p_load Tryz.isAgg36 (fun _=>rfl) (by rfl)) rfl rfl ?_
    refine op_wg (fun _=>rfl) (p_len_slice Tryz.underlying36 (fun _=>rfl)) rfl rfl ?_
    refine op_wg (fun _=>rfl) (p_move (fun _=>rfl)) rfl rfl ?_
    first | (refine op_wg (fun _=>rfl) (p_sub_nat (fun _=>rfl) (fun _=>rfl) ?_ ?_) rfl rfl ?_; (focus (omega)); (focus (omega))) | (refine op_wg (fun _=>rfl) (p_sub (fun _=>rfl) (fun _=>rfl) (IntWalk.i64_in _ ?_)) rfl rfl ?_; (focus (omega)))
    first | refine op_wg (fun _=>rfl) (p_leq_nat (fun _=>rfl) (fun _=>rfl)) rfl rfl ?_ | refine op_wg (fun _=>rfl) (p_leq (fun _=>rfl) (fun _=>rfl)) rfl rfl ?_
    refine op_v (p_pick_t (fun _=>rfl) (fun _=>rfl)) ?_
    refine op_v (p_assign (fun _=>rfl)) ?_
    refine ops_nil ?_
    refine nx_slots (env' := [(6, _)]) [6] rfl (fun _=>rfl) ?_
    refine nx_next ?_
    refine at_ret ?_
    refine nx_end1 (H' := _) rfl Tryz.results62 (fun _=>rfl) (by exact ⟨by first | rfl | (simp; omega) | (exfalso; omega) | (congr 1; simp; omega), rfl⟩)
   ·
    refine op_skip (fun _=>rfl) rfl ?_
    refine op_skip (fun _=>rfl) rfl ?_
    refine op_skip (fun _=>rfl) rfl ?_
    refine op_skip (fun _=>rfl) rfl ?_
    refine op_skip (fun _=>rfl) rfl ?_
    refine op_skip (fun _=>rfl) rfl ?_
    refine op_skip (fun _=>rfl) rfl ?_
    refine op_skip (fun _=>rfl) rfl ?_
    refine op_skip (fun _=>rfl) rfl ?_
    refine op_v (p_pick_f (fun _=>rfl) (fun _=>rfl)) ?_
    refine op_v (p_assign (fun _=>rfl)) ?_
    refine ops_nil ?_
    refine nx_slots (env' := [(6, _)]) [6] rfl (fun _=>rfl) ?_
    refine nx_next ?_
    refine at_ret ?_
    refine nx_end1 (H' := _) rfl Tryz.results62 (fun _=>rfl) (by exact ⟨by first | rfl | (simp; omega) | (exfalso; omega) | (congr 1; simp; omega), rfl⟩)
  ·
   refine op_skip (fun _=>rfl) rfl ?_
   refine op_skip (fun _=>rfl) rfl ?_
   refine op_skip (fun _=>rfl) rfl ?_
   refine op_skip (fun _=>rfl) rfl ?_
   refine op_skip (fun _=>rfl) rfl ?_
   refine op_skip (fun _=>rfl) rfl ?_
   refine op_skip (fun _=>rfl) rfl ?_
   refine op_v (p_pick_f (fun _=>rfl) (fun _=>rfl)) ?_
   refine op_v (p_move (fun _=>rfl)) ?_
   refine op_skip (fun _=>rfl) rfl ?_
   refine op_skip (fun _=>rfl) rfl ?_
   refine op_skip (fun _=>rfl) rfl ?_
   refine op_skip (fun _=>rfl) rfl ?_
   refine op_skip (fun _=>rfl) rfl ?_
   refine op_skip (fun _=>rfl) rfl ?_
   refine op_skip (fun _=>rfl) rfl ?_
   refine op_skip (fun _=>rfl) rfl ?_
   refine op_skip (fun _=>rfl) rfl ?_
   refine op_v (p_pick_f (fun _=>rfl) (fun _=>rfl)) ?_
   refine op_v (p_assign (fun _=>rfl)) ?_
   refine ops_nil ?_
   refine nx_slots (env' := [(6, _)]) [6] rfl (fun _=>rfl) ?_
   refine nx_next ?_
   refine at_ret ?_
   refine nx_end1 (H' := _) rfl Tryz.results62 (fun _=>rfl) (by exact ⟨by first | rfl | (simp; omega) | (exfalso; omega) | (congr 1; simp; omega), rfl⟩)
 ·
  refine op_skip (fun _=>rfl) rfl ?_
  refine op_skip (fun _=>rfl) rfl ?_
  refine op_v (p_pick_f (fun _=>rfl) (fun _=>rfl)) ?_
  refine op_v (p_move (fun _=>rfl)) ?_
  refine op_skip (fun _=>rfl) rfl ?_
  refine op_skip (fun _=>rfl) rfl ?_
  refine op_skip (fun _=>rfl) rfl ?_
  refine op_skip (fun _=>rfl) rfl ?_
  refine op_skip (fun _=>rfl) rfl ?_
  refine op_skip (fun _=>rfl) rfl ?_
  refine op_skip (fun _=>rfl) rfl ?_
  refine op_v (p_pick_f (fun _=>rfl) (fun _=>rfl)) ?_
  refine op_v (p_move (fun _=>rfl)) ?_
  refine op_skip (fun _=>rfl) rfl ?_
  refine op_skip (fun _=>rfl) rfl ?_
  refine op_skip (fun _=>rfl) rfl ?_
  refine op_skip (fun _=>rfl) rfl ?_
  refine op_skip (fun _=>rfl) rfl ?_
  refine op_skip (fun _=>rfl) rfl ?_
  refine op_skip (fun _=>rfl) rfl ?_
  refine op_skip (fun _=>rfl) rfl ?_
  refine op_skip (fun _=>rfl) rfl ?_
  refine op_v (p_pick_f (fun _=>rfl) (fun _=>rfl)) ?_
  refine op_v (p_assign (fun _=>rfl)) ?_
  refine ops_nil ?_
  refine nx_slots (env' := [(6, _)]) [6] rfl (fun _=>rfl) ?_
  refine nx_next ?_
  refine at_ret ?_
  refine nx_end1 (H' := _) rfl Tryz.results62 (fun _=>rfl) (by exact ⟨by first | rfl | (simp; omega) | (exfalso; omega) | (congr 1; simp; omega), rfl⟩)

theorem size_spec (off : Bool) (dp left bd bv n : Nat) (pv : Value) (Td : TypeId) : DoesR Tryz.prog 43 #[.pointer (some ⟨dp, 0, none⟩)] [[(dp, .cells (dkc off left bd bv n pv) Td (0, 0))]] (.int .i64 (n : Int)) := by
 refine spec_enter Tryz.func43 rfl Tryz.ntmps43 rfl ?_
 intro u R
 refine at_slots (env' := [(0, _)]) [0] rfl (fun _=>rfl) ?_
 refine at_seq ?_
 refine at_region ?_
 refine op_v (p_assign (fun _=>rfl)) ?_
 refine ops_nil ?_
 refine nx_next ?_
 refine at_seq ?_
 refine at_seq ?_
 refine at_region ?_
 refine op_v (p_move (fun _=>rfl)) ?_
 first | refine op_v (p_eql_nil_nil Tryz.underlying26 (fun _=>rfl) (fun _=>rfl)) ?_ | refine op_v (p_eql_ptr_nil Tryz.underlying26 (fun _=>rfl) (fun _=>rfl)) ?_
 refine ops_nil ?_
 refine nx_next ?_
 refine at_if_bool (fun _=>rfl) (fun hc1 => ?_) (fun hc1 => ?_)
 ·
  cases hc1
 ·
  refine at_skip ?_
  refine nx_next ?_
  refine at_seq ?_
  refine at_region ?_
  refine op_v (p_move (fun _=>rfl)) ?_
  refine op_v (p_nilChk (fun _=>rfl) rfl) ?_
  refine op_v (p_fieldAddr0 (off := 2) Tryz.underlying103 rfl rfl Tryz.sizeOf36 (fun _=>rfl)) ?_
  refine op_r (by repeat (first | exact Has.here _ | apply Has.there)) (p_load Tryz.isAgg36 (fun _=>rfl) (by rfl)) rfl rfl ?_
  refine op_v (p_len_slice Tryz.underlying36 (fun _=>rfl)) ?_
  refine op_v (p_assign (fun _=>rfl)) ?_
  refine ops_nil ?_
  refine nx_next ?_
  refine at_ret ?_
  refine nx_end1 (H' := _) rfl Tryz.results43 (fun _=>rfl) (by exact ⟨rfl, rfl⟩)

theorem used_spec (off : Bool) (left : Nat) (hl : left ≤ 4194304) (dp bd bv n : Nat) (pv : Value) (Td : TypeId) : Does Tryz.prog 67 #[.pointer (some ⟨dp, 0, none⟩)] [[(dp, .cells (dkc off left bd bv n pv) Td (0, 0))]] (fun r H' => r = .tuple #[] ∧ H' = [[(dp, .cells (dkc (usedOff off left) (usedLeft left) bd bv n pv) Td (0, 0))]]) := by
 refine spec_enter Tryz.func67 rfl Tryz.ntmps67 rfl ?_
 intro u R
 refine at_slots (env' := [(0, _)]) [0] rfl (fun _=>rfl) ?_
 refine at_seq ?_
 refine at_seq ?_
 refine at_region ?_
 refine op_v (p_move (fun _=>rfl)) ?_
 refine op_v (p_nilChk (fun _=>rfl) rfl) ?_
 refine op_v (p_fieldAddr0 (off := 1) Tryz.underlying100 rfl rfl Tryz.sizeOf3 (fun _=>rfl)) ?_
 refine op_r (by repeat (first | exact Has.here _ | apply Has.there)) (p_load Tryz.isAgg3 (fun _=>rfl) (by rfl)) rfl rfl ?_
 first | refine op_v (p_eql_nat (n := 0) (fun _=>rfl) (fun _=>rfl)) ?_ | refine op_v (p_eql (fun _=>rfl) (fun _=>rfl)) ?_
 refine ops_nil ?_
 refine nx_next ?_
 first | refine at_if (fun _=>rfl) (fun hc1 => ?_) (fun hc1 => ?_) | refine at_if_bool (fun _=>rfl) (fun hc1 => ?_) (fun hc1 => ?_)
 ·
  subst hc1
  refine at_ret ?_
  refine nx_thru (by intro h; cases h) ?_
  refine nx_end0 (H' := _) rfl Tryz.results67 (by exact ⟨rfl, (rfl : ([[(dp, Obj.cells (dkc off 0 bd bv n pv) Td (0, 0))]] : Hp) = _)⟩)
 ·
  refine at_skip ?_
  refine nx_next ?_
  refine at_seq ?_
  refine at_region ?_
  refine op_v (p_move (fun _=>rfl)) ?_
  refine op_v (p_nilChk (fun _=>rfl) rfl) ?_
  refine op_v (p_fieldAddr0 (off := 1) Tryz.underlying100 rfl rfl Tryz.sizeOf3 (fun _=>rfl)) ?_
  refine op_r (by repeat (first | exact Has.here _ | apply Has.there)) (p_load Tryz.isAgg3 (fun _=>rfl) (by rfl)) rfl rfl ?_
  first | (refine op_v (p_sub_nat (n := 1) (fun _=>rfl) (fun _=>rfl) ?_ ?_) ?_; (focus (omega)); (focus (omega))) | (refine op_v (p_sub (fun _=>rfl) (fun _=>rfl) (IntWalk.i64_in _ ?_)) ?_; (focus (omega)))
  refine op_v (p_nilChk (fun _=>rfl) rfl) ?_
  refine op_v (p_fieldAddr0 (off := 1) Tryz.underlying100 rfl rfl Tryz.sizeOf3 (fun _=>rfl)) ?_
  refine op_e (w_store Tryz.sizeOf3 (fun _=>rfl) (fun _=>rfl) rfl (by repeat (first | exact Upd.here _ | apply Upd.there)) (by rfl) (by first | decide | exact Nat.le_refl _ | (simp; done) | (simp; omega)) (by exact free_zero _)) (fun _=>rfl) rfl rfl ?_
  rintro _ _ ⟨rfl, rfl⟩
  refine ops_nil ?_
  refine nx_slots (env' := [(0, _)]) [0] rfl (fun _=>rfl) ?_
  refine nx_next ?_
  refine at_region ?_
  refine op_v (p_move (fun _=>rfl)) ?_
  refine op_v (p_move (fun _=>rfl)) ?_
  refine op_v (p_nilChk (fun _=>rfl) rfl) ?_
  refine op_v (p_fieldAddr0 (off := 1) Tryz.underlying100 rfl rfl Tryz.sizeOf3 (fun _=>rfl)) ?_
  refine op_r (by repeat (first | exact Has.here _ | apply Has.there)) (p_load Tryz.isAgg3 (fun _=>rfl) (by rfl)) rfl rfl ?_
  first | refine op_v (p_eql_nat (n := 0) (fun _=>rfl) (fun _=>rfl)) ?_ | refine op_v (p_eql (fun _=>rfl) (fun _=>rfl)) ?_
  refine op_v (p_nilChk (fun _=>rfl) rfl) ?_
  refine op_v (p_fieldAddr0 (off := 0) Tryz.underlying100 rfl rfl Tryz.sizeOf4 (fun _=>rfl)) ?_
  refine op_e (w_store Tryz.sizeOf4 (fun _=>rfl) (fun _=>rfl) rfl (by repeat (first | exact Upd.here _ | apply Upd.there)) (by exact used_cells off left bd bv n pv hc1) (by first | decide | exact Nat.le_refl _ | (simp; done) | (simp; omega)) (by exact free_zero _)) (fun _=>rfl) rfl rfl ?_
  rintro _ _ ⟨rfl, rfl⟩
  refine ops_nil ?_
  refine nx_end0 (H' := _) rfl Tryz.results67 (by exact ⟨rfl, rfl⟩)

theorem cut_spec (m : Nat) (dp left bd bv n : Nat) (pv : Value) (Td : TypeId) : Does Tryz.prog 34 #[.pointer (some ⟨dp, 0, none⟩), .int .i64 (m : Int)] [[(dp, .cells (dkc false left bd bv n pv) Td (0, 0))]] (fun r H' => r = .int .i64 0 ∧ H' = [[(dp, .cells (dkc (decide (m = 0)) m bd bv n pv) Td (0, 0))]]) := by
 refine spec_enter Tryz.func34 rfl Tryz.ntmps34 rfl ?_
 intro u R
 refine at_slots (env' := [(0, _), (1, _)]) [0, 1] rfl (fun _=>rfl) ?_
 refine at_seq ?_
 refine at_region ?_
 refine op_v (p_assign (fun _=>rfl)) ?_
 refine ops_nil ?_
 refine nx_next ?_
 refine at_seq ?_
 refine at_seq ?_
 refine at_region ?_
 refine op_v (p_move (fun _=>rfl)) ?_
 refine op_e (w_callR (vs := [_]) (fun _=>rfl) Tryz.call61 (fun _=>rfl) rfl (check_on _ _ _ _ _ _ _) (by repeat (first | exact Pull.nil _ | (apply Pull.cons; (focus (repeat (first | exact One.here _ _ | apply One.there))))))) (fun _=>rfl) rfl rfl ?_
 rintro _ _ ⟨rfl, rfl⟩
 refine op_v (p_assign (fun _=>rfl)) ?_
 refine ops_nil ?_
 refine nx_next ?_
 refine at_seq ?_
 refine at_region ?_
 refine op_v (p_move (fun _=>rfl)) ?_
 first | refine op_v (p_neq_nat (n := 0) (fun _=>rfl) (fun _=>rfl)) ?_ | refine op_v (p_neq (fun _=>rfl) (fun _=>rfl)) ?_
 refine ops_nil ?_
 refine nx_next ?_
 first | refine at_if (fun _=>rfl) (fun hc1 => ?_) (fun hc1 => ?_) | refine at_if_bool (fun _=>rfl) (fun hc1 => ?_) (fun hc1 => ?_)
 ·
  exact absurd rfl hc1
 ·
  refine at_skip ?_
  refine nx_next ?_
  refine at_seq ?_
  refine at_seq ?_
  refine at_region ?_
  refine op_v (p_move (fun _=>rfl)) ?_
  first | refine op_v (p_lss_nat (n := 0) (fun _=>rfl) (fun _=>rfl)) ?_ | refine op_v (p_lss (fun _=>rfl) (fun _=>rfl)) ?_
  refine ops_nil ?_
  refine nx_next ?_
  first | refine at_if (fun _=>rfl) (fun hc2 => ?_) (fun hc2 => ?_) | refine at_if_bool (fun _=>rfl) (fun hc2 => ?_) (fun hc2 => ?_)
  ·
   exfalso; omega
  ·
   refine at_skip ?_
   refine nx_next ?_
   refine at_seq ?_
   refine at_region ?_
   refine op_v (p_move (fun _=>rfl)) ?_
   refine op_v (p_move (fun _=>rfl)) ?_
   first | refine op_v (p_eql_nat (n := 0) (fun _=>rfl) (fun _=>rfl)) ?_ | refine op_v (p_eql (fun _=>rfl) (fun _=>rfl)) ?_
   refine op_v (p_move (fun _=>rfl)) ?_
   refine op_v (p_build (vs := [(0, _), (1, _)]) (cs := #[_, _]) (fun _=>rfl) (run_build_struct (pl := #[(0, 1), (1, 1)]) Tryz.zeroValue100 Tryz.underlying100 (fun _ => by kernel_rfl) rfl)) ?_
   refine op_v (p_nilChk (fun _=>rfl) rfl) ?_
   refine op_v (p_fieldAddr0 (off := 0) Tryz.underlying103 rfl rfl Tryz.sizeOf100 (fun _=>rfl)) ?_
   refine op_e (w_store_agg Tryz.sizeOf100 (fun _=>rfl) (fun _=>rfl) (by simp [Value.oneCell', Value.cells]) (by repeat (first | exact Upd.here _ | apply Upd.there)) (by rfl) (by first | rfl | (simp; done)) (by first | decide | exact Nat.le_refl _ | (simp; done) | (simp; omega)) (by exact free_zero _)) (fun _=>rfl) rfl rfl ?_
   rintro _ _ ⟨rfl, rfl⟩
   refine ops_nil ?_
   refine nx_slots (env' := []) [] rfl (fun _=>rfl) ?_
   refine nx_next ?_
   refine at_seq ?_
   refine at_region ?_
   refine op_v (p_assign (fun _=>rfl)) ?_
   refine ops_nil ?_
   refine nx_next ?_
   refine at_ret ?_
   refine nx_end1 (H' := _) rfl Tryz.results34 (fun _=>rfl) (by exact ⟨rfl, rfl⟩)

theorem disk_new (n : Nat) (h1 : 1 ≤ n) (h2 : n ≤ 4194304) : Does Tryz.prog 9 #[.int .i64 (n : Int)] [] (fun r H' => ∃ dp bd bv, r = .tuple #[.pointer (some ⟨dp, 0, none⟩), .int .i64 0] ∧ H' = [[(dp, .cells (dkc false 0 bd bv n (.slice none 0 0)) 103 (0, 0))], [(bd, .cells (List.replicate n (.int .u8 0)).toArray 5 (0, 0))], [(bv, .cells (List.replicate n (.int .u8 0)).toArray 5 (0, 0))]]) := by
 refine spec_enter Tryz.func9 rfl Tryz.ntmps9 rfl ?_
 intro u R
 refine at_slots (env' := [(0, _)]) [0] rfl (fun _=>rfl) ?_
 refine at_seq ?_
 refine at_region ?_
 refine op_v (p_assign (fun _=>rfl)) ?_
 refine op_v (p_assign (fun _=>rfl)) ?_
 refine ops_nil ?_
 refine nx_next ?_
 refine at_seq ?_
 refine at_seq ?_
 refine at_region ?_
 refine op_v (p_move (fun _=>rfl)) ?_
 first | refine op_v (p_lss_nat (n := 1) (fun _=>rfl) (fun _=>rfl)) ?_ | refine op_v (p_lss (fun _=>rfl) (fun _=>rfl)) ?_
 refine op_v (p_move (fun _=>rfl)) ?_
 first | refine ops_split (t := 6) (fun _=>rfl) rfl (fun hc1 => ?_) (fun hc1 => ?_) | refine ops_split_bool (t := 6) (fun _=>rfl) rfl (fun hc1 => ?_) (fun hc1 => ?_)
 ·
  exfalso; omega
 ·
  refine op_wg (fun _=>rfl) (p_move (fun _=>rfl)) rfl rfl ?_
  first | refine op_wg (fun _=>rfl) (p_gtr_nat (n := 4194304) (fun _=>rfl) (fun _=>rfl)) rfl rfl ?_ | refine op_wg (fun _=>rfl) (p_gtr (fun _=>rfl) (fun _=>rfl)) rfl rfl ?_
  refine op_v (p_pick_f (fun _=>rfl) (fun _=>rfl)) ?_
  refine ops_nil ?_
  refine nx_next ?_
  first | refine at_if (fun _=>rfl) (fun hc2 => ?_) (fun hc2 => ?_) | refine at_if_bool (fun _=>rfl) (fun hc2 => ?_) (fun hc2 => ?_)
  ·
   exfalso; omega
  ·
   refine at_skip ?_
   refine nx_next ?_
   refine at_seq ?_
   refine at_draw (n := 8) (0 :: 1 :: 0 :: 4 :: 15 :: 31 :: 63 :: 127 :: []) 42 (by kernel_rfl) (by kernel_rfl) rfl ?_
   refine lin_v (D' := 1) 0 (p_move (fun _=>rfl)) ?_
   refine lin_v (D' := 5) 2 (p_move (fun _=>rfl)) ?_
   refine lin_eff (l := [1, 3]) (by kernel_rfl) (by kernel_rfl) ?_
   refine each_cons (m := 1) (D' := 7) (is := []) (bs := []) (T' := []) rfl (fun _=>rfl) rfl rfl rfl (by kernel_rfl) rfl (w_makeSlice (by_ := 1) Tryz.underlying36 (rfl : Tryz.prog.info? 5 = some Tryz.t5) rfl rfl rfl rfl (fun _=>rfl) (fun _=>rfl) ?_ ?_ ?_) ?hk_1 (fun _ _ h => h.elim) ?hl_1
   (focus (omega))
   (focus (omega))
   (focus (omega))
   case hk_1 =>
    rintro _ _ ⟨bd, rfl, rfl⟩
    refine ⟨keep_nil, ?_⟩
    refine lin_eff (l := [3]) (by kernel_rfl) (by kernel_rfl) ?_
    refine each_cons (m := 4) (D' := 15) (is := []) (bs := []) (T' := []) rfl (fun _=>rfl) rfl rfl rfl (by kernel_rfl) rfl (w_makeSlice (by_ := 1) Tryz.underlying36 (rfl : Tryz.prog.info? 5 = some Tryz.t5) rfl rfl rfl rfl (fun _=>rfl) (fun _=>rfl) ?_ ?_ ?_) ?hk_2 (fun _ _ h => h.elim) ?hl_2
    (focus (omega))
    (focus (omega))
    (focus (omega))
    case hk_2 =>
     rintro _ _ ⟨bv, rfl, rfl⟩
     refine ⟨keep_nil, ?_⟩
     refine lin_v (D' := 31) 4 (p_build (vs := [(1, _), (2, _)]) (cs := #[_, _, _, _, _]) (fun _=>rfl) (run_build_struct (pl := #[(0, 2), (2, 1), (3, 1), (4, 1)]) Tryz.zeroValue103 Tryz.underlying103 (fun _ => by kernel_rfl) rfl)) ?_
     refine lin_eff (l := [5]) (by kernel_rfl) (by kernel_rfl) ?_
     refine each_cons (m := 31) (D' := 63) (is := []) (bs := []) (T' := []) rfl (fun _=>rfl) rfl rfl rfl (by kernel_rfl) rfl (w_box (fun _=>rfl) (cs := #[_, _, _, _, _]) rfl) ?hk_3 (fun _ _ h => h.elim) ?hl_3
     case hk_3 =>
      rintro _ _ ⟨dp, rfl, rfl⟩
      refine ⟨keep_nil, ?_⟩
      refine lin_v (D' := 127) 6 (p_assign (fun _=>rfl)) ?_
      refine lin_v (D' := 255) 7 (p_assign (fun _=>rfl)) ?_
      refine lin_nil ?_
      refine nx_slots (env' := [(2, _), (3, _)]) [2, 3] rfl (fun _=>rfl) ?_
      refine nx_next ?_
      refine at_ret ?_
      refine nx_end2 (H' := _) rfl Tryz.results9 (fun _=>rfl) (fun _=>rfl) (by exact ⟨dp, bd, bv, rfl, rfl⟩)
     case hl_3 =>
      exact each_nil
    case hl_2 =>
     exact each_nil
   case hl_1 =>
    refine each_cons (m := 4) (D' := 13) (is := []) (bs := []) (T' := []) rfl (fun _=>rfl) rfl rfl rfl (by kernel_rfl) rfl (w_makeSlice (by_ := 1) Tryz.underlying36 (rfl : Tryz.prog.info? 5 = some Tryz.t5) rfl rfl rfl rfl (fun _=>rfl) (fun _=>rfl) ?_ ?_ ?_) ?hk_5 (fun _ _ h => h.elim) ?hl_5
    (focus (omega))
    (focus (omega))
    (focus (omega))
    case hk_5 =>
     rintro _ _ ⟨bv, rfl, rfl⟩
     refine ⟨keep_nil, ?_⟩
     refine lin_eff (l := [1]) (by kernel_rfl) (by kernel_rfl) ?_
     refine each_cons (m := 1) (D' := 15) (is := []) (bs := []) (T' := []) rfl (fun _=>rfl) rfl rfl rfl (by kernel_rfl) rfl (w_makeSlice (by_ := 1) Tryz.underlying36 (rfl : Tryz.prog.info? 5 = some Tryz.t5) rfl rfl rfl rfl (fun _=>rfl) (fun _=>rfl) ?_ ?_ ?_) ?hk_6 (fun _ _ h => h.elim) ?hl_6
     (focus (omega))
     (focus (omega))
     (focus (omega))
     case hk_6 =>
      rintro _ _ ⟨bd, rfl, rfl⟩
      refine ⟨keep_nil, ?_⟩
      refine lin_v (D' := 31) 4 (p_build (vs := [(1, _), (2, _)]) (cs := #[_, _, _, _, _]) (fun _=>rfl) (run_build_struct (pl := #[(0, 2), (2, 1), (3, 1), (4, 1)]) Tryz.zeroValue103 Tryz.underlying103 (fun _ => by kernel_rfl) rfl)) ?_
      refine lin_eff (l := [5]) (by kernel_rfl) (by kernel_rfl) ?_
      refine each_cons (m := 31) (D' := 63) (is := []) (bs := []) (T' := []) rfl (fun _=>rfl) rfl rfl rfl (by kernel_rfl) rfl (w_box (fun _=>rfl) (cs := #[_, _, _, _, _]) rfl) ?hk_7 (fun _ _ h => h.elim) ?hl_7
      case hk_7 =>
       rintro _ _ ⟨dp, rfl, rfl⟩
       refine ⟨keep_nil, ?_⟩
       refine lin_v (D' := 127) 6 (p_assign (fun _=>rfl)) ?_
       refine lin_v (D' := 255) 7 (p_assign (fun _=>rfl)) ?_
       refine lin_nil ?_
       refine nx_slots (env' := [(2, _), (3, _)]) [2, 3] rfl (fun _=>rfl) ?_
       refine nx_next ?_
       refine at_ret ?_
       refine nx_end2 (H' := _) rfl Tryz.results9 (fun _=>rfl) (fun _=>rfl) (by exact ⟨dp, bd, bv, rfl, rfl⟩)
      case hl_7 =>
       exact each_nil
     case hl_6 =>
      exact each_nil
    case hl_5 =>
     exact each_nil

theorem bytes_all (l : List UInt8) : CellsIn (byc l) 0 (l.map u8v) := by
  unfold CellsIn byc
  rw [List.drop_zero]
  exact List.take_of_length_le (Nat.le_refl _)

theorem onto_spec (o n bv : Nat) (s vi : List UInt8) (Tv : TypeId) (h : o + s.length ≤ n) (ho : o < n) (hn : n ≤ 4194304) (hv : vi.length = n) :
    Does Tryz.prog 66 #[.agg #[.int .i64 (o : Int), .string (str s)], .slice (some ⟨bv, 0, none⟩) n n] [[(bv, .cells (byc vi) Tv (0, 0))]] (fun r H' => r = .tuple #[] ∧ H' = [[(bv, .cells (byc (splice vi o s)) Tv (0, 0))]]) := by
 refine spec_enter Tryz.func66 rfl Tryz.ntmps66 rfl ?_
 intro u R
 refine at_slots (env' := [(0, _), (1, _)]) [0, 1] rfl (fun _=>rfl) ?_
 refine at_seq ?_
 refine at_region ?_
 refine op_e (w_box (fun _=>rfl) (cs := #[_, _]) rfl) (fun _=>rfl) rfl rfl ?_
 rintro _ _ ⟨b1, rfl, rfl⟩
 refine ops_nil ?_
 refine nx_next ?_
 refine at_draw (n := 7) (0 :: 0 :: 2 :: 7 :: 0 :: 16 :: 63 :: []) 64 (by kernel_rfl) (by kernel_rfl) rfl ?_
 refine lin_v (D' := 1) 0 (p_move (fun _=>rfl)) ?_
 refine lin_v (D' := 3) 1 (p_fieldAddr0 (off := 0) Tryz.underlying139 rfl rfl Tryz.sizeOf3 (fun _=>rfl)) ?_
 refine lin_r (D' := 7) 2 rfl rfl rfl (by repeat (first | exact Has.here _ | apply Has.there)) (p_load Tryz.isAgg3 (fun _=>rfl) (by rfl)) ?_
 (refine lin_v (D' := 15) 3 (p_slice_slice_from1 Tryz.underlying36 Tryz.sizeOf5 (fun _=>rfl) (fun _=>rfl) ?_ ?_) ?_; (focus (omega)); (focus (omega)))
 refine lin_v (D' := 31) 4 (p_fieldAddr0 (off := 1) Tryz.underlying139 rfl rfl Tryz.sizeOf9 (fun _=>rfl)) ?_
 refine lin_r (D' := 63) 5 rfl rfl rfl (by repeat (first | exact Has.here _ | apply Has.there)) (p_load Tryz.isAgg9 (fun _=>rfl) (by rfl)) ?_
 refine lin_eff (l := [6]) (by kernel_rfl) (by kernel_rfl) ?_
 refine each_cons (m := 63) (D' := 127) (is := [5, 2]) (bs := [false, false]) (T' := []) rfl (fun _=>rfl) rfl rfl rfl (by kernel_rfl) rfl (w_copy_str (cs := s.map u8v) (c' := byc (splice vi o s)) Tryz.underlying36 Tryz.sizeOf5 (fun _=>rfl) (fun _=>rfl) (by repeat (first | exact Upd.here _ | apply Upd.there)) (by rw [str_list, List.take_of_length_le (by omega)]) (by rw [Nat.zero_add]; exact over_splice vi o s) (by rw [byc_size, List.length_map]; omega) (free_zero _)) ?hk_1 (fun _ _ h => h.elim) ?hl_1
 case hk_1 =>
  rintro _ _ ⟨rfl, rfl⟩
  refine ⟨keep_nil, ?_⟩
  refine lin_nil ?_
  refine nx_end0 (H' := _) rfl Tryz.results66 (by exact ⟨rfl, rfl⟩)
 case hl_1 =>
  exact each_nil

theorem settle_spec (off : Bool) (dp left bd bv n bf bt k : Nat) (pv : Value) (xs : List Value) (sp : List Chunk) (fl tl : List UInt8) (Td Tf Tt : TypeId) (hf : fl.length = n) (ht : tl.length = n) (hn : n ≤ 4194304) (hr : RowS 2 139 pv k xs sp) :
    Does Tryz.prog 83 #[.pointer (some ⟨dp, 0, none⟩), .slice (some ⟨bf, 0, none⟩) n n, .slice (some ⟨bt, 0, none⟩) n n] [[(dp, .cells (dkc off left bd bv n pv) Td (0, 0))], [(bf, .cells (byc fl) Tf (0, 0))], [(bt, .cells (byc tl) Tt (0, 0))], sp]
      (fun r H' => r = .tuple #[] ∧ ∃ b c sp', RowS 2 139 (.slice b 0 c) 0 [] sp' ∧ H' = [[(dp, .cells (dkc off left bd bv n (.slice b 0 c)) Td (0, 0))], [(bf, .cells (byc fl) Tf (0, 0))], [(bt, .cells (byc fl) Tt (0, 0))], sp']) := by
 refine spec_enter Tryz.func83 rfl Tryz.ntmps83 rfl ?_
 intro u R
 obtain ⟨b, c, rfl⟩ := hr.form
 refine at_slots (env' := [(0, _), (1, _), (2, _)]) [0, 1, 2] rfl (fun _=>rfl) ?_
 refine at_seq ?_
 refine at_region ?_
 refine op_v (p_move (fun _=>rfl)) ?_
 refine op_v (p_move (fun _=>rfl)) ?_
 refine op_e (w_copy (cs := fl.map u8v) (c' := byc fl) Tryz.underlying36 Tryz.sizeOf5 (fun _=>rfl) (fun _=>rfl) (by repeat (first | exact Has.here _ | apply Has.there)) (by repeat (first | exact Upd.here _ | apply Upd.there)) (bytes_all fl) (by rw [List.length_map, hf, Nat.min_self]) (over_new _ _ (by simp [byc]; omega)) (by rw [byc_size, List.length_map]; omega) (free_zero _) (bytes_one fl)) (fun _=>rfl) rfl rfl ?_
 rintro _ _ ⟨rfl, rfl⟩
 refine ops_nil ?_
 refine nx_next ?_
 refine at_seq ?_
 refine at_region ?_
 refine op_v (p_move (fun _=>rfl)) ?_
 refine op_v (p_nilChk (fun _=>rfl) rfl) ?_
 refine op_v (p_fieldAddr0 (off := 4) Tryz.underlying103 rfl rfl Tryz.sizeOf101 (fun _=>rfl)) ?_
 refine op_r (by repeat (first | exact Has.here _ | apply Has.there)) (p_load Tryz.isAgg101 (fun _=>rfl) (by rfl)) rfl rfl ?_
 refine op_e (w_clearS Tryz.underlying101 (rfl : Tryz.prog.info? 139 = some Tryz.t139) rfl rfl (by simp [Value.cells, Value.oneCell']) (fun _=>rfl) hr (by repeat (first | exact One.here _ _ | apply One.there))) (fun _=>rfl) rfl rfl ?_
 rintro _ _ ⟨xsq, sq, hrq, rfl⟩
 refine ops_nil ?_
 refine nx_next ?_
 refine at_region ?_
 refine op_v (p_move (fun _=>rfl)) ?_
 refine op_v (p_move (fun _=>rfl)) ?_
 refine op_v (p_nilChk (fun _=>rfl) rfl) ?_
 refine op_v (p_fieldAddr0 (off := 4) Tryz.underlying103 rfl rfl Tryz.sizeOf101 (fun _=>rfl)) ?_
 refine op_r (by repeat (first | exact Has.here _ | apply Has.there)) (p_load Tryz.isAgg101 (fun _=>rfl) (by rfl)) rfl rfl ?_
 (refine op_v (p_slice_slice_to (h := 0) Tryz.underlying101 Tryz.sizeOf139 (fun _=>rfl) (fun _=>rfl) ?_) ?_; (focus (first | exact Nat.zero_le _ | decide | exact Nat.le_refl _ | (simp; done) | (simp; omega))))
 refine op_v (p_nilChk (fun _=>rfl) rfl) ?_
 refine op_v (p_fieldAddr0 (off := 4) Tryz.underlying103 rfl rfl Tryz.sizeOf101 (fun _=>rfl)) ?_
 refine op_e (w_store Tryz.sizeOf101 (fun _=>rfl) (fun _=>rfl) rfl (by repeat (first | exact Upd.here _ | apply Upd.there)) (by rfl) (by first | exact Nat.zero_le _ | decide | exact Nat.le_refl _ | (simp; done) | (simp; omega)) (by exact free_zero _)) (fun _=>rfl) rfl rfl ?_
 rintro _ _ ⟨rfl, rfl⟩
 refine ops_nil ?_
 refine nx_end0 (H' := _) rfl Tryz.results83 (by exact ⟨rfl, b, c, sq, hrq.cut, rfl⟩)

theorem sync_spec (left dp bd bv n k : Nat) (pv : Value) (xs : List Value) (sp : List Chunk) (du vi : List UInt8) (hd : du.length = n) (hv : vi.length = n) (hn : n ≤ 4194304) (hr : RowS 2 139 pv k xs sp) : Does Tryz.prog 48 #[.pointer (some ⟨dp, 0, none⟩)] [[(dp, .cells (dkc false left bd bv n pv) 103 (0, 0))], [(bd, .cells (byc du) 5 (0, 0))], [(bv, .cells (byc vi) 5 (0, 0))], sp] (fun r H' => r = .int .i64 0 ∧ ∃ b c sp', RowS 2 139 (.slice b 0 c) 0 [] sp' ∧ H' = [[(dp, .cells (dkc false left bd bv n (.slice b 0 c)) 103 (0, 0))], [(bd, .cells (byc vi) 5 (0, 0))], [(bv, .cells (byc vi) 5 (0, 0))], sp']) := by
 refine spec_enter Tryz.func48 rfl Tryz.ntmps48 rfl ?_
 intro u R
 refine at_slots (env' := [(0, _)]) [0] rfl (fun _=>rfl) ?_
 refine at_seq ?_
 refine at_region ?_
 refine op_v (p_assign (fun _=>rfl)) ?_
 refine ops_nil ?_
 refine nx_next ?_
 refine at_seq ?_
 refine at_region ?_
 refine op_v (p_move (fun _=>rfl)) ?_
 refine op_e (w_callR (vs := [_]) (fun _=>rfl) Tryz.call61 (fun _=>rfl) rfl (check_on _ _ _ _ _ _ _) (by repeat (first | exact Pull.nil _ | (apply Pull.cons; (focus (repeat (first | exact One.here _ _ | apply One.there))))))) (fun _=>rfl) rfl rfl ?_
 rintro _ _ ⟨rfl, rfl⟩
 refine op_v (p_assign (fun _=>rfl)) ?_
 refine ops_nil ?_
 refine nx_next ?_
 refine at_seq ?_
 refine at_seq ?_
 refine at_region ?_
 refine op_v (p_move (fun _=>rfl)) ?_
 first | refine op_v (p_eql_nat (n := 0) (fun _=>rfl) (fun _=>rfl)) ?_ | refine op_v (p_eql (fun _=>rfl) (fun _=>rfl)) ?_
 refine ops_nil ?_
 refine nx_next ?_
 first | refine at_if (fun _=>rfl) (fun hc1 => ?_) (fun hc1 => ?_) | refine at_if_bool (fun _=>rfl) (fun hc1 => ?_) (fun hc1 => ?_)
 ·
  refine at_draw (n := 10) (0 :: 0 :: 2 :: 6 :: 14 :: 0 :: 32 :: 96 :: 224 :: 511 :: []) 512 (by kernel_rfl) (by kernel_rfl) rfl ?_
  refine lin_v (D' := 1) 0 (p_move (fun _=>rfl)) ?_
  refine lin_v (D' := 3) 1 (p_move (fun _=>rfl)) ?_
  refine lin_v (D' := 7) 2 (p_nilChk (fun _=>rfl) rfl) ?_
  refine lin_v (D' := 15) 3 (p_fieldAddr0 (off := 3) Tryz.underlying103 rfl rfl Tryz.sizeOf36 (fun _=>rfl)) ?_
  refine lin_r (D' := 31) 4 rfl rfl rfl (by repeat (first | exact Has.here _ | apply Has.there)) (p_load Tryz.isAgg36 (fun _=>rfl) (by rfl)) ?_
  refine lin_v (D' := 63) 5 (p_move (fun _=>rfl)) ?_
  refine lin_v (D' := 127) 6 (p_nilChk (fun _=>rfl) rfl) ?_
  refine lin_v (D' := 255) 7 (p_fieldAddr0 (off := 2) Tryz.underlying103 rfl rfl Tryz.sizeOf36 (fun _=>rfl)) ?_
  refine lin_r (D' := 511) 8 rfl rfl rfl (by repeat (first | exact Has.here _ | apply Has.there)) (p_load Tryz.isAgg36 (fun _=>rfl) (by rfl)) ?_
  refine lin_eff (l := [9]) (by kernel_rfl) (by kernel_rfl) ?_
  refine each_cons (m := 511) (D' := 1023) (is := [8, 4]) (bs := [false, false]) (T' := []) rfl (fun _=>rfl) rfl rfl rfl (by kernel_rfl) rfl (w_call (vs := [_, _, _]) (fun _=>rfl) Tryz.call83 (fun _=>rfl) rfl (settle_spec _ _ _ _ _ _ _ _ _ _ _ _ _ _ _ _ _ hv hd hn hr) (by repeat (first | exact Pull.nil _ | (apply Pull.cons; (focus (repeat (first | exact One.here _ _ | apply One.there))))))) ?hk_1 no_pan ?hl_1
  case hk_1 =>
   rintro _ _ ⟨_, ⟨rfl, b, c, sq, hrq, rfl⟩, rfl⟩
   refine ⟨keep_nil, ?_⟩
   refine lin_nil ?_
   refine nx_slots (env' := [(3, _)]) [3] rfl (fun _=>rfl) ?_
   refine nx_next ?_
   refine at_seq ?_
   refine at_region ?_
   refine op_v (p_move (fun _=>rfl)) ?_
   refine op_v (p_assign (fun _=>rfl)) ?_
   refine ops_nil ?_
   refine nx_next ?_
   refine at_ret ?_
   refine nx_end1 (H' := _) rfl Tryz.results48 (fun _=>rfl) (by exact ⟨rfl, b, c, sq, hrq, rfl⟩)
  case hl_1 =>
   exact each_nil
 ·
  exact absurd rfl hc1

theorem sync_off (left dp bd bv n : Nat) (pv : Value) (Td : TypeId) : DoesR Tryz.prog 48 #[.pointer (some ⟨dp, 0, none⟩)] [[(dp, .cells (dkc true left bd bv n pv) Td (0, 0))]] (.int .i64 221) := by
 refine spec_enter Tryz.func48 rfl Tryz.ntmps48 rfl ?_
 intro u R
 refine at_slots (env' := [(0, _)]) [0] rfl (fun _=>rfl) ?_
 refine at_seq ?_
 refine at_region ?_
 refine op_v (p_assign (fun _=>rfl)) ?_
 refine ops_nil ?_
 refine nx_next ?_
 refine at_seq ?_
 refine at_region ?_
 refine op_v (p_move (fun _=>rfl)) ?_
 refine op_e (w_callR (vs := [_]) (fun _=>rfl) Tryz.call61 (fun _=>rfl) rfl (check_off _ _ _ _ _ _ _) (by repeat (first | exact Pull.nil _ | (apply Pull.cons; (focus (repeat (first | exact One.here _ _ | apply One.there))))))) (fun _=>rfl) rfl rfl ?_
 rintro _ _ ⟨rfl, rfl⟩
 refine op_v (p_assign (fun _=>rfl)) ?_
 refine ops_nil ?_
 refine nx_next ?_
 refine at_seq ?_
 refine at_seq ?_
 refine at_region ?_
 refine op_v (p_move (fun _=>rfl)) ?_
 first | refine op_v (p_eql_nat (n := 0) (fun _=>rfl) (fun _=>rfl)) ?_ | refine op_v (p_eql (fun _=>rfl) (fun _=>rfl)) ?_
 refine ops_nil ?_
 refine nx_next ?_
 first | refine at_if (fun _=>rfl) (fun hc1 => ?_) (fun hc1 => ?_) | refine at_if_bool (fun _=>rfl) (fun hc1 => ?_) (fun hc1 => ?_)
 ·
  exact absurd hc1 (by decide)
 ·
  refine at_skip ?_
  refine nx_next ?_
  refine at_seq ?_
  refine at_region ?_
  refine op_v (p_move (fun _=>rfl)) ?_
  refine op_v (p_assign (fun _=>rfl)) ?_
  refine ops_nil ?_
  refine nx_next ?_
  refine at_ret ?_
  refine nx_end1 (H' := _) rfl Tryz.results48 (fun _=>rfl) (by exact ⟨rfl, rfl⟩)

theorem write_off (left dp bd bv n : Nat) (o : Int) (s : ByteArray) (pv : Value) (Td : TypeId) : DoesR Tryz.prog 21 #[.pointer (some ⟨dp, 0, none⟩), .int .i64 o, .string s] [[(dp, .cells (dkc true left bd bv n pv) Td (0, 0))]] (.int .i64 221) := by
 refine spec_enter Tryz.func21 rfl Tryz.ntmps21 rfl ?_
 intro u R
 refine at_slots (env' := [(0, _), (1, _), (2, _)]) [0, 1, 2] rfl (fun _=>rfl) ?_
 refine at_seq ?_
 refine at_region ?_
 refine op_v (p_assign (fun _=>rfl)) ?_
 refine ops_nil ?_
 refine nx_next ?_
 refine at_seq ?_
 refine at_seq ?_
 refine at_region ?_
 refine op_v (p_move (fun _=>rfl)) ?_
 refine op_e (w_callR (vs := [_]) (fun _=>rfl) Tryz.call61 (fun _=>rfl) rfl (check_off _ _ _ _ _ _ _) (by repeat (first | exact Pull.nil _ | (apply Pull.cons; (focus (repeat (first | exact One.here _ _ | apply One.there))))))) (fun _=>rfl) rfl rfl ?_
 rintro _ _ ⟨rfl, rfl⟩
 refine op_v (p_assign (fun _=>rfl)) ?_
 refine ops_nil ?_
 refine nx_next ?_
 refine at_seq ?_
 refine at_region ?_
 refine op_v (p_move (fun _=>rfl)) ?_
 first | refine op_v (p_neq_nat (n := 0) (fun _=>rfl) (fun _=>rfl)) ?_ | refine op_v (p_neq (fun _=>rfl) (fun _=>rfl)) ?_
 refine ops_nil ?_
 refine nx_next ?_
 first | refine at_if (fun _=>rfl) (fun hc1 => ?_) (fun hc1 => ?_) | refine at_if_bool (fun _=>rfl) (fun hc1 => ?_) (fun hc1 => ?_)
 ·
  refine at_seq ?_
  refine at_region ?_
  refine op_v (p_move (fun _=>rfl)) ?_
  refine op_v (p_assign (fun _=>rfl)) ?_
  refine ops_nil ?_
  refine nx_next ?_
  refine at_ret ?_
  refine nx_thru (by intro h; cases h) ?_
  refine nx_end1 (H' := _) rfl Tryz.results21 (fun _=>rfl) (by exact ⟨rfl, rfl⟩)
 ·
  exact absurd (by decide) hc1

theorem write_spec (left dp bd bv n k : Nat) (pv : Value) (xs : List Value) (sp : List Chunk) (du vi : List UInt8) (hd : du.length = n) (hv : vi.length = n) (hn : n ≤ 4194304) (hr : RowS 2 139 pv k xs sp) (o : Nat) (s : List UInt8) (h : o + s.length ≤ n) (ho : o < n) (hl : left ≤ 4194304) (hk : k ≤ 1000000) : Does Tryz.prog 21 #[.pointer (some ⟨dp, 0, none⟩), .int .i64 (o : Int), .string (str s)] [[(dp, .cells (dkc false left bd bv n pv) 103 (0, 0))], [(bd, .cells (byc du) 5 (0, 0))], [(bv, .cells (byc vi) 5 (0, 0))], sp] (fun r H' => r = .int .i64 0 ∧ ∃ pv' sp', RowS 2 139 pv' (k + 1) (xs ++ [.int .i64 (o : Int), .string (str s)]) sp' ∧ H' = [[(dp, .cells (dkc (usedOff false left) (usedLeft left) bd bv n pv') 103 (0, 0))], [(bd, .cells (byc du) 5 (0, 0))], [(bv, .cells (byc (splice vi o s)) 5 (0, 0))], sp']) := by
 have hml : maxLen = 9223372036854775807 := rfl
 have hss := str_size s
 obtain ⟨b, c, rfl⟩ := hr.form
 refine spec_enter Tryz.func21 rfl Tryz.ntmps21 rfl ?_
 intro u R
 refine at_slots (env' := [(0, _), (1, _), (2, _)]) [0, 1, 2] rfl (fun _=>rfl) ?_
 refine at_seq ?_
 refine at_region ?_
 refine op_v (p_assign (fun _=>rfl)) ?_
 refine ops_nil ?_
 refine nx_next ?_
 refine at_seq ?_
 refine at_seq ?_
 refine at_region ?_
 refine op_v (p_move (fun _=>rfl)) ?_
 refine op_e (w_callR (vs := [_]) (fun _=>rfl) Tryz.call61 (fun _=>rfl) rfl (check_on _ _ _ _ _ _ _) (by repeat (first | exact Pull.nil _ | (apply Pull.cons; (focus (repeat (first | exact One.here _ _ | apply One.there))))))) (fun _=>rfl) rfl rfl ?_
 rintro _ _ ⟨rfl, rfl⟩
 refine op_v (p_assign (fun _=>rfl)) ?_
 refine ops_nil ?_
 refine nx_next ?_
 refine at_seq ?_
 refine at_region ?_
 refine op_v (p_move (fun _=>rfl)) ?_
 first | refine op_v (p_neq_nat (n := 0) (fun _=>rfl) (fun _=>rfl)) ?_ | refine op_v (p_neq (fun _=>rfl) (fun _=>rfl)) ?_
 refine ops_nil ?_
 refine nx_next ?_
 first | refine at_if (fun _=>rfl) (fun hc1 => ?_) (fun hc1 => ?_) | refine at_if_bool (fun _=>rfl) (fun hc1 => ?_) (fun hc1 => ?_)
 ·
  exact absurd rfl hc1
 ·
  refine at_skip ?_
  refine nx_next ?_
  refine at_seq ?_
  refine at_seq ?_
  rw [← hss] at h
  refine at_region ?_
  refine op_v (p_move (fun _=>rfl)) ?_
  refine op_v (p_move (fun _=>rfl)) ?_
  refine op_v (p_move (fun _=>rfl)) ?_
  refine op_v (p_len_str Tryz.underlying9 (fun _=>rfl)) ?_
  refine op_e (w_callR (vs := [_, _, _]) (fun _=>rfl) Tryz.call62 (fun _=>rfl) rfl (inside_yes false o (str s).size _ _ _ _ _ _ _ (by omega) hn) (by repeat (first | exact Pull.nil _ | (apply Pull.cons; (focus (repeat (first | exact One.here _ _ | apply One.there))))))) (fun _=>rfl) rfl rfl ?_
  rintro _ _ ⟨rfl, rfl⟩
  first | refine op_v (p_not_dec (fun _=>rfl)) ?_ | refine op_v (p_not (fun _=>rfl)) ?_
  refine ops_nil ?_
  refine nx_next ?_
  refine at_if_bool (fun _=>rfl) (fun hc2 => ?_) (fun hc2 => ?_)
  ·
   cases hc2
  ·
   refine at_skip ?_
   refine nx_next ?_
   refine at_seq ?_
   refine at_region ?_
   refine op_v (p_move (fun _=>rfl)) ?_
   refine op_v (p_move (fun _=>rfl)) ?_
   refine op_v (p_build (vs := [(0, _), (1, _)]) (cs := #[_, _]) (fun _=>rfl) (run_build_struct (pl := #[(0, 1), (1, 1)]) Tryz.zeroValue139 Tryz.underlying139 (fun _ => by kernel_rfl) rfl)) ?_
   refine op_e (w_alloc Tryz.zeroValue139 (cs := #[_, _]) rfl) (fun _=>rfl) rfl rfl ?_
   rintro _ _ ⟨b1, rfl, rfl⟩
   refine op_e (w_store_agg Tryz.sizeOf139 (fun _=>rfl) (fun _=>rfl) (by simp [Value.oneCell', Value.cells]) (by repeat (first | exact Upd.here _ | apply Upd.there)) (by exact (rfl : _ = (#[.int .i64 (o : Int), .string (str s)] : Array Value))) (by first | rfl | (simp; done)) (by first | decide | exact Nat.le_refl _ | (simp; done) | (simp; omega)) (by exact free_zero _)) (fun _=>rfl) rfl rfl ?_
   rintro _ _ ⟨rfl, rfl⟩
   refine ops_nil ?_
   refine nx_slots (env' := [(0, _), (8, _)]) [0, 8] rfl (fun _=>rfl) ?_
   refine nx_next ?_
   refine at_seq ?_
   refine at_draw (n := 11) (0 :: 0 :: 2 :: 6 :: 14 :: 0 :: 32 :: 126 :: 255 :: 511 :: 1023 :: []) 1216 (by kernel_rfl) (by kernel_rfl) rfl ?_
   refine lin_v (D' := 1) 0 (p_move (fun _=>rfl)) ?_
   refine lin_v (D' := 3) 1 (p_move (fun _=>rfl)) ?_
   refine lin_v (D' := 7) 2 (p_nilChk (fun _=>rfl) rfl) ?_
   refine lin_v (D' := 15) 3 (p_fieldAddr0 (off := 4) Tryz.underlying103 rfl rfl Tryz.sizeOf101 (fun _=>rfl)) ?_
   refine lin_r (D' := 31) 4 rfl rfl rfl (by repeat (first | exact Has.here _ | apply Has.there)) (p_load Tryz.isAgg101 (fun _=>rfl) (by rfl)) ?_
   refine lin_r (D' := 63) 5 rfl rfl rfl (by repeat (first | exact Has.here _ | apply Has.there)) (p_load_agg (cs := #[_, _]) Tryz.isAgg139 Tryz.sizeOf139 (fun _=>rfl) (by first | decide | exact Nat.le_refl _ | (simp; done) | (simp; omega)) (by rfl)) ?_
   refine lin_eff (l := [6]) (by kernel_rfl) (by kernel_rfl) ?_
   refine each_cons (m := 32) (D' := 127) (is := [5, 4]) (bs := [false, true]) (T' := [(4, (_, _))]) rfl (fun _=>rfl) rfl rfl rfl (by kernel_rfl) rfl (w_buildSlice (vs := [_]) (cs := [_, _]) Tryz.underlying101 Tryz.sizeOf139 Tryz.zeroValue139 (fun _=>rfl) rfl rfl rfl rfl rfl) ?hk_1 (fun _ _ h => h.elim) ?hl_1
   case hk_1 =>
    rintro _ _ ⟨bw, rfl, rfl⟩
    refine ⟨keep_cons (by repeat (first | exact Has.here _ | apply Has.there)) (keep_nil), ?_⟩
    refine lin_eff (l := [7]) (by kernel_rfl) (by kernel_rfl) ?_
    refine each_cons (m := 126) (D' := 255) (is := [4]) (bs := [false]) (T' := []) rfl (fun _=>rfl) rfl rfl rfl (by kernel_rfl) rfl (w_appendS (by_ := 24) (sz := 2) (news := [_, _]) Tryz.underlying101 (rfl : Tryz.prog.info? 139 = some Tryz.t139) rfl rfl rfl rfl (fun _=>rfl) hr (fun _=>rfl) (by repeat (first | exact One.here _ _ | apply One.there)) (by repeat (first | exact Has.here _ | apply Has.there)) (by rfl) rfl (by simp [Value.oneCell']) (by decide) (by omega) (by omega)) ?hk_2 (fun _ _ h => h.elim) ?hl_2
    case hk_2 =>
     rintro _ _ ⟨sq, hrq, rfl⟩
     refine ⟨keep_nil, ?_⟩
     obtain ⟨gq, cq, rfl⟩ := hrq.form
     refine lin_v (D' := 511) 8 (p_nilChk (fun _=>rfl) rfl) ?_
     refine lin_v (D' := 1023) 9 (p_fieldAddr0 (off := 4) Tryz.underlying103 rfl rfl Tryz.sizeOf101 (fun _=>rfl)) ?_
     refine lin_eff (l := [10]) (by kernel_rfl) (by kernel_rfl) ?_
     refine each_cons (m := 1023) (D' := 2047) (is := []) (bs := []) (T' := []) rfl (fun _=>rfl) rfl rfl rfl (by kernel_rfl) rfl (w_store Tryz.sizeOf101 (fun _=>rfl) (fun _=>rfl) rfl (by repeat (first | exact Upd.here _ | apply Upd.there)) (by rfl) (by first | decide | exact Nat.le_refl _ | (simp; done) | (simp; omega)) (by exact free_zero _)) ?hk_3 (fun _ _ h => h.elim) ?hl_3
     case hk_3 =>
      rintro _ _ ⟨rfl, rfl⟩
      refine ⟨keep_nil, ?_⟩
      refine lin_nil ?_
      refine nx_next ?_
      refine at_seq ?_
      refine at_draw (n := 6) (0 :: 0 :: 2 :: 6 :: 14 :: 31 :: []) 32 (by kernel_rfl) (by kernel_rfl) rfl ?_
      refine lin_r (D' := 1) 0 rfl rfl rfl (by repeat (first | exact Has.here _ | apply Has.there)) (p_load_agg (cs := #[_, _]) Tryz.isAgg139 Tryz.sizeOf139 (fun _=>rfl) (by first | decide | exact Nat.le_refl _ | (simp; done) | (simp; omega)) (by rfl)) ?_
      refine lin_v (D' := 3) 1 (p_move (fun _=>rfl)) ?_
      refine lin_v (D' := 7) 2 (p_nilChk (fun _=>rfl) rfl) ?_
      refine lin_v (D' := 15) 3 (p_fieldAddr0 (off := 3) Tryz.underlying103 rfl rfl Tryz.sizeOf36 (fun _=>rfl)) ?_
      refine lin_r (D' := 31) 4 rfl rfl rfl (by repeat (first | exact Has.here _ | apply Has.there)) (p_load Tryz.isAgg36 (fun _=>rfl) (by rfl)) ?_
      refine lin_eff (l := [5]) (by kernel_rfl) (by kernel_rfl) ?_
      refine each_cons (m := 31) (D' := 63) (is := [4, 0]) (bs := [false, false]) (T' := []) rfl (fun _=>rfl) rfl rfl rfl (by kernel_rfl) rfl (w_call (vs := [_, _]) (fun _=>rfl) Tryz.call66 (fun _=>rfl) rfl (onto_spec o n bv s vi _ (by omega) ho hn hv) (by repeat (first | exact Pull.nil _ | (apply Pull.cons; (focus (repeat (first | exact One.here _ _ | apply One.there))))))) ?hk_4 no_pan ?hl_4
      case hk_4 =>
       rintro _ _ ⟨_, ⟨rfl, rfl⟩, rfl⟩
       refine ⟨keep_nil, ?_⟩
       refine lin_nil ?_
       refine nx_slots (env' := [(0, _)]) [0] rfl (fun _=>rfl) ?_
       refine nx_next ?_
       refine at_seq ?_
       refine at_region ?_
       refine op_v (p_move (fun _=>rfl)) ?_
       refine op_v (p_nilChk (fun _=>rfl) rfl) ?_
       refine op_v (p_fieldAddr0 (off := 0) Tryz.underlying103 rfl rfl Tryz.sizeOf100 (fun _=>rfl)) ?_
       refine ops_eff (fun _=>rfl) (fits_of rfl) rfl (w_call (vs := [_]) (fun _=>rfl) Tryz.call67 (fun _=>rfl) rfl (used_spec _ _ hl _ _ _ _ _ _) (by repeat (first | exact Pull.nil _ | (apply Pull.cons; (focus (repeat (first | exact One.here _ _ | apply One.there))))))) ?_ no_pan
       rintro _ _ ⟨_, ⟨rfl, rfl⟩, rfl⟩
       refine ops_nil ?_
       refine nx_next ?_
       refine at_seq ?_
       refine at_region ?_
       refine op_v (p_assign (fun _=>rfl)) ?_
       refine ops_nil ?_
       refine nx_next ?_
       refine at_ret ?_
       refine nx_end1 (H' := _) rfl Tryz.results21 (fun _=>rfl) (by exact ⟨rfl, _, sq, hrq, rfl⟩)
      case hl_4 =>
       exact each_nil
     case hl_3 =>
      exact each_nil
    case hl_2 =>
     exact each_nil
   case hl_1 =>
    exact each_nil

theorem read_spec (left dp bd bv n : Nat) (pv : Value) (vi : List UInt8) (Td Tv : TypeId) (hv : vi.length = n) (hn : n ≤ 4194304) (o m : Nat) (h : o + m ≤ n) (ho : o < n) : DoesR Tryz.prog 16 #[.pointer (some ⟨dp, 0, none⟩), .int .i64 (o : Int), .int .i64 (m : Int)] [[(dp, .cells (dkc false left bd bv n pv) Td (0, 0))], [(bv, .cells (byc vi) Tv (0, 0))]] (.tuple #[.string (str ((vi.drop o).take m)), .int .i64 0]) := by
 refine spec_enter Tryz.func16 rfl Tryz.ntmps16 rfl ?_
 intro u R
 refine at_slots (env' := [(0, _), (1, _), (2, _)]) [0, 1, 2] rfl (fun _=>rfl) ?_
 refine at_seq ?_
 refine at_region ?_
 refine op_v (p_assign (fun _=>rfl)) ?_
 refine op_v (p_assign (fun _=>rfl)) ?_
 refine ops_nil ?_
 refine nx_next ?_
 refine at_seq ?_
 refine at_seq ?_
 refine at_region ?_
 refine op_v (p_move (fun _=>rfl)) ?_
 refine op_e (w_callR (vs := [_]) (fun _=>rfl) Tryz.call61 (fun _=>rfl) rfl (check_on _ _ _ _ _ _ _) (by repeat (first | exact Pull.nil _ | (apply Pull.cons; (focus (repeat (first | exact One.here _ _ | apply One.there))))))) (fun _=>rfl) rfl rfl ?_
 rintro _ _ ⟨rfl, rfl⟩
 refine op_v (p_assign (fun _=>rfl)) ?_
 refine ops_nil ?_
 refine nx_next ?_
 refine at_seq ?_
 refine at_region ?_
 refine op_v (p_move (fun _=>rfl)) ?_
 first | refine op_v (p_neq_nat (n := 0) (fun _=>rfl) (fun _=>rfl)) ?_ | refine op_v (p_neq (fun _=>rfl) (fun _=>rfl)) ?_
 refine ops_nil ?_
 refine nx_next ?_
 first | refine at_if (fun _=>rfl) (fun hc1 => ?_) (fun hc1 => ?_) | refine at_if_bool (fun _=>rfl) (fun hc1 => ?_) (fun hc1 => ?_)
 ·
  exact absurd rfl hc1
 ·
  refine at_skip ?_
  refine nx_next ?_
  refine at_seq ?_
  refine at_seq ?_
  refine at_region ?_
  refine op_v (p_move (fun _=>rfl)) ?_
  refine op_v (p_move (fun _=>rfl)) ?_
  refine op_v (p_move (fun _=>rfl)) ?_
  refine op_e (w_callR (vs := [_, _, _]) (fun _=>rfl) Tryz.call62 (fun _=>rfl) rfl (inside_yes false o m _ _ _ _ _ _ _ h hn) (by repeat (first | exact Pull.nil _ | (apply Pull.cons; (focus (repeat (first | exact One.here _ _ | apply One.there))))))) (fun _=>rfl) rfl rfl ?_
  rintro _ _ ⟨rfl, rfl⟩
  first | refine op_v (p_not_dec (fun _=>rfl)) ?_ | refine op_v (p_not (fun _=>rfl)) ?_
  refine ops_nil ?_
  refine nx_next ?_
  refine at_if_bool (fun _=>rfl) (fun hc2 => ?_) (fun hc2 => ?_)
  ·
   cases hc2
  ·
   refine at_skip ?_
   refine nx_next ?_
   refine at_seq ?_
   refine at_region ?_
   refine op_v (p_move (fun _=>rfl)) ?_
   refine op_v (p_nilChk (fun _=>rfl) rfl) ?_
   refine op_v (p_fieldAddr0 (off := 3) Tryz.underlying103 rfl rfl Tryz.sizeOf36 (fun _=>rfl)) ?_
   refine op_r (by repeat (first | exact Has.here _ | apply Has.there)) (p_load Tryz.isAgg36 (fun _=>rfl) (by rfl)) rfl rfl ?_
   refine op_v (p_move (fun _=>rfl)) ?_
   (refine op_v (p_slice_slice_from1 Tryz.underlying36 Tryz.sizeOf5 (fun _=>rfl) (fun _=>rfl) ?_ ?_) ?_; (focus (omega)); (focus (omega)))
   refine op_v (p_move (fun _=>rfl)) ?_
   (refine op_v (p_slice_slice_to Tryz.underlying36 Tryz.sizeOf5 (fun _=>rfl) (fun _=>rfl) ?_) ?_; (focus (omega)))
   refine op_r (by repeat (first | exact Has.here _ | apply Has.there)) (p_conv_bytes_str Tryz.underlying36 Tryz.underlying5 Tryz.underlying9 (fun _=>rfl) (by exact ⟨by rw [Nat.zero_add, List.map_take, List.map_drop], by rw [List.length_take, List.length_drop]; omega⟩)) rfl rfl ?_
   refine op_v (p_assign (fun _=>rfl)) ?_
   refine op_v (p_assign (fun _=>rfl)) ?_
   refine ops_nil ?_
   refine nx_slots (env' := [(6, _), (7, _)]) [6, 7] rfl (fun _=>rfl) ?_
   refine nx_next ?_
   refine at_ret ?_
   refine nx_end2 (H' := _) rfl Tryz.results16 (fun _=>rfl) (fun _=>rfl) (by exact ⟨rfl, rfl⟩)

theorem read_off (left dp bd bv n : Nat) (pv : Value) (Td : TypeId) (o m : Int) : DoesR Tryz.prog 16 #[.pointer (some ⟨dp, 0, none⟩), .int .i64 o, .int .i64 m] [[(dp, .cells (dkc true left bd bv n pv) Td (0, 0))]] (.tuple #[.string (str []), .int .i64 221]) := by
 refine spec_enter Tryz.func16 rfl Tryz.ntmps16 rfl ?_
 intro u R
 refine at_slots (env' := [(0, _), (1, _), (2, _)]) [0, 1, 2] rfl (fun _=>rfl) ?_
 refine at_seq ?_
 refine at_region ?_
 refine op_v (p_assign (fun _=>rfl)) ?_
 refine op_v (p_assign (fun _=>rfl)) ?_
 refine ops_nil ?_
 refine nx_next ?_
 refine at_seq ?_
 refine at_seq ?_
 refine at_region ?_
 refine op_v (p_move (fun _=>rfl)) ?_
 refine op_e (w_callR (vs := [_]) (fun _=>rfl) Tryz.call61 (fun _=>rfl) rfl (check_off _ _ _ _ _ _ _) (by repeat (first | exact Pull.nil _ | (apply Pull.cons; (focus (repeat (first | exact One.here _ _ | apply One.there))))))) (fun _=>rfl) rfl rfl ?_
 rintro _ _ ⟨rfl, rfl⟩
 refine op_v (p_assign (fun _=>rfl)) ?_
 refine ops_nil ?_
 refine nx_next ?_
 refine at_seq ?_
 refine at_region ?_
 refine op_v (p_move (fun _=>rfl)) ?_
 first | refine op_v (p_neq_nat (n := 0) (fun _=>rfl) (fun _=>rfl)) ?_ | refine op_v (p_neq (fun _=>rfl) (fun _=>rfl)) ?_
 refine ops_nil ?_
 refine nx_next ?_
 first | refine at_if (fun _=>rfl) (fun hc1 => ?_) (fun hc1 => ?_) | refine at_if_bool (fun _=>rfl) (fun hc1 => ?_) (fun hc1 => ?_)
 ·
  refine at_seq ?_
  refine at_region ?_
  refine op_v (p_move (fun _=>rfl)) ?_
  refine op_v (p_assign (fun _=>rfl)) ?_
  refine op_v (p_assign (fun _=>rfl)) ?_
  refine ops_nil ?_
  refine nx_next ?_
  refine at_ret ?_
  refine nx_thru (by intro h; cases h) ?_
  refine nx_end2 (H' := _) rfl Tryz.results16 (fun _=>rfl) (fun _=>rfl) (by exact ⟨rfl, rfl⟩)
 ·
  exact absurd (by decide) hc1

/-- The state of a disk. -/
structure DiskS where
  off : Bool
  left : Nat
  du : List UInt8
  vi : List UInt8
  pend : List (Nat × List UInt8)
def pendC (l : List (Nat × List UInt8)) : List Value := l.flatMap fun p => [.int .i64 (p.1 : Int), .string (str p.2)]
def DiskS.ok (d : DiskS) : Prop := d.du.length = d.vi.length ∧ 1 ≤ d.vi.length ∧ d.vi.length ≤ 4194304 ∧ d.left ≤ 4194304
/-- The memory s is a disk in the state d. -/
def DiskR (d : DiskS) (dp : Nat) (s : List Chunk) : Prop := d.ok ∧ ∃ bd bv pv sp, RowS 2 139 pv d.pend.length (pendC d.pend) sp ∧
  s = (dp, .cells (dkc d.off d.left bd bv d.vi.length pv) 103 (0, 0)) :: (bd, .cells (byc d.du) 5 (0, 0)) :: (bv, .cells (byc d.vi) 5 (0, 0)) :: sp
def DiskS.write (d : DiskS) (o : Nat) (s : List UInt8) : Int × DiskS := if d.off then (221, d) else (0, ⟨usedOff false d.left, usedLeft d.left, d.du, splice d.vi o s, d.pend ++ [(o, s)]⟩)
def DiskS.sync (d : DiskS) : Int × DiskS := if d.off then (221, d) else (0, { d with du := d.vi, pend := [] })
def DiskS.cut (d : DiskS) (m : Nat) : Int × DiskS := if d.off then (221, d) else (0, { d with off := decide (m = 0), left := m })
def DiskS.new (n : Nat) : DiskS := ⟨false, 0, List.replicate n 0, List.replicate n 0, []⟩
theorem does_flat {P : Program} {f : FuncId} {args : Array Value} {H H' : Hp} {Q : Value → Hp → Prop} (e : H.flatten = H'.flatten) (h : Does P f args H Q) : Does P f args H' Q := fun u R w hs =>
  h u R w (hs.sub ⟨[], by simp [e]⟩)
theorem does_mono {P : Program} {f : FuncId} {args : Array Value} {H : Hp} {Q Q' : Value → Hp → Prop} (h : Does P f args H Q) (hq : ∀ v H1, Q v H1 → ∃ H2, Q' v H2 ∧ H1.flatten = H2.flatten) : Does P f args H Q' := fun u R w hs =>
  Calls.mono (h u R w hs) fun e w' he => by
    rcases he with ⟨v, H1, h1, h2, h3⟩ | ⟨_, _, _, h, _⟩
    · obtain ⟨H2, h4, h5⟩ := hq v H1 h2
      exact .inl ⟨v, H2, h1, h4, h3.sub ⟨[], by simp [h5]⟩⟩
    · exact h.elim
/-- The rest of the memory is framed off. -/
theorem does_frame {P : Program} {f : FuncId} {args : Array Value} {H H1 : Hp} {Q : Value → Hp → Prop} (h : Does P f args H1 Q) (R1 : Hp) (e : H.flatten = (H1 ++ R1).flatten) : Does P f args H (fun v H' => ∃ H2, Q v H2 ∧ H' = H2 ++ R1) := fun u R w hs =>
  Calls.mono (h u (R1 ++ R) w (hs.sub ⟨[], by simp only [List.flatten_append, List.append_nil] at e ⊢; rw [e]; simp⟩)) fun ed w' he => by
    rcases he with ⟨v, H2, h1, h2, h3⟩ | ⟨_, _, _, h, _⟩
    · exact .inl ⟨v, H2 ++ R1, h1, ⟨H2, h2, rfl⟩, h3.sub ⟨[], by simp⟩⟩
    · exact h.elim
theorem does_perm {P : Program} {f : FuncId} {args : Array Value} {H H' : Hp} {Q Q' : Value → Hp → Prop} (h : Does P f args H Q) (e : H'.flatten.Perm H.flatten) (hq : ∀ v H1, Q v H1 → ∃ H2, Q' v H2 ∧ H1.flatten.Perm H2.flatten) : Does P f args H' Q' := fun u R w hs =>
  Calls.mono (h u R w (hs.perm (by simp only [List.flatten_append]; exact e.append_right _))) fun ed w' he => by
    rcases he with ⟨v, H1, h1, h2, h3⟩ | ⟨_, _, _, h, _⟩
    · obtain ⟨H2, h4, h5⟩ := hq v H1 h2
      exact .inl ⟨v, H2, h1, h4, h3.perm (by simp only [List.flatten_append]; exact h5.append_right _)⟩
    · exact h.elim
theorem disk_write (d : DiskS) (dp : Nat) (s : List Chunk) (hR : DiskR d dp s) (o : Nat) (b : List UInt8) (h : o + b.length ≤ d.vi.length) (ho : o < d.vi.length) (hk : d.pend.length ≤ 1000000) :
    Does Tryz.prog 21 #[.pointer (some ⟨dp, 0, none⟩), .int .i64 (o : Int), .string (str b)] [s] (fun r H' => ∃ s', H' = [s'] ∧ r = .int .i64 (d.write o b).1 ∧ DiskR (d.write o b).2 dp s') := by
  obtain ⟨⟨hl, h1, h4, hlf⟩, bd, bv, pv, sp, hr, rfl⟩ := hR
  obtain ⟨off, left, du, vi, pend⟩ := d
  simp only at *
  cases off with
  | true =>
    refine does_mono (does_frame (write_off left dp bd bv vi.length o (str b) pv 103) [(bd, .cells (byc du) 5 (0, 0)) :: (bv, .cells (byc vi) 5 (0, 0)) :: sp] (by simp)) ?_
    rintro v _ ⟨H2, ⟨rfl, rfl⟩, rfl⟩
    exact ⟨[_], ⟨_, rfl, rfl, ⟨hl, h1, h4, hlf⟩, bd, bv, pv, sp, hr, rfl⟩, by simp [DiskS.write]⟩
  | false =>
    refine does_mono (does_flat ?_ (write_spec left dp bd bv vi.length pend.length pv (pendC pend) sp du vi hl rfl h4 hr o b h ho hlf hk)) ?_
    · simp
    · rintro v _ ⟨rfl, pv', sp', hr', rfl⟩
      refine ⟨[_], ⟨_, rfl, rfl, ⟨?_, ?_, ?_, ?_⟩, bd, bv, pv', sp', ?_, rfl⟩, ?_⟩
      · simp only [DiskS.write, Bool.false_eq_true, if_false]; rw [splice_len _ _ _ h]; exact hl
      · simp only [DiskS.write, Bool.false_eq_true, if_false]; rw [splice_len _ _ _ h]; exact h1
      · simp only [DiskS.write, Bool.false_eq_true, if_false]; rw [splice_len _ _ _ h]; exact h4
      · simp only [DiskS.write, Bool.false_eq_true, if_false]; unfold usedLeft; omega
      · simp only [DiskS.write, Bool.false_eq_true, if_false, List.length_append, List.length_cons, List.length_nil]
        have : pendC (pend ++ [(o, b)]) = pendC pend ++ [.int .i64 (o : Int), .string (str b)] := by simp [pendC]
        rw [this]; exact hr'
      · simp [DiskS.write, splice_len _ _ _ h]
theorem disk_sync (d : DiskS) (dp : Nat) (s : List Chunk) (hR : DiskR d dp s) :
    Does Tryz.prog 48 #[.pointer (some ⟨dp, 0, none⟩)] [s] (fun r H' => ∃ s', H' = [s'] ∧ r = .int .i64 d.sync.1 ∧ DiskR d.sync.2 dp s') := by
  obtain ⟨⟨hl, h1, h4, hlf⟩, bd, bv, pv, sp, hr, rfl⟩ := hR
  obtain ⟨off, left, du, vi, pend⟩ := d
  simp only at *
  cases off with
  | true =>
    refine does_mono (does_frame (sync_off left dp bd bv vi.length pv 103) [(bd, .cells (byc du) 5 (0, 0)) :: (bv, .cells (byc vi) 5 (0, 0)) :: sp] (by simp)) ?_
    rintro v _ ⟨H2, ⟨rfl, rfl⟩, rfl⟩
    exact ⟨[_], ⟨_, rfl, rfl, ⟨hl, h1, h4, hlf⟩, bd, bv, pv, sp, hr, rfl⟩, by simp [DiskS.sync]⟩
  | false =>
    refine does_mono (does_flat ?_ (sync_spec left dp bd bv vi.length pend.length pv (pendC pend) sp du vi hl rfl h4 hr)) ?_
    · simp
    · rintro v _ ⟨rfl, b, c, sp', hr', rfl⟩
      exact ⟨[_], ⟨_, rfl, rfl, ⟨rfl, h1, h4, hlf⟩, bd, bv, .slice b 0 c, sp', hr', rfl⟩, by simp [DiskS.sync]⟩
theorem disk_cut (d : DiskS) (dp : Nat) (s : List Chunk) (hR : DiskR d dp s) (ho : d.off = false) (m : Nat) (hm : m ≤ 4194304) :
    Does Tryz.prog 34 #[.pointer (some ⟨dp, 0, none⟩), .int .i64 (m : Int)] [s] (fun r H' => ∃ s', H' = [s'] ∧ r = .int .i64 (d.cut m).1 ∧ DiskR (d.cut m).2 dp s') := by
  obtain ⟨⟨hl, h1, h4, hlf⟩, bd, bv, pv, sp, hr, rfl⟩ := hR
  obtain ⟨off, left, du, vi, pend⟩ := d
  simp only at *
  subst ho
  refine does_mono (does_frame (cut_spec m dp left bd bv vi.length pv 103) [(bd, .cells (byc du) 5 (0, 0)) :: (bv, .cells (byc vi) 5 (0, 0)) :: sp] (by simp)) ?_
  rintro v _ ⟨H2, ⟨rfl, rfl⟩, rfl⟩
  exact ⟨[_], ⟨_, rfl, rfl, ⟨hl, h1, h4, hm⟩, bd, bv, pv, sp, hr, rfl⟩, by simp [DiskS.cut]⟩
theorem disk_size (d : DiskS) (dp : Nat) (s : List Chunk) (hR : DiskR d dp s) : DoesR Tryz.prog 43 #[.pointer (some ⟨dp, 0, none⟩)] [s] (.int .i64 (d.vi.length : Int)) := by
  obtain ⟨hok, bd, bv, pv, sp, hr, rfl⟩ := hR
  refine does_mono (does_frame (size_spec d.off dp d.left bd bv d.vi.length pv 103) [(bd, .cells (byc d.du) 5 (0, 0)) :: (bv, .cells (byc d.vi) 5 (0, 0)) :: sp] (by simp)) ?_
  rintro v _ ⟨H2, ⟨rfl, rfl⟩, rfl⟩
  exact ⟨_, ⟨rfl, rfl⟩, by simp⟩
theorem disk_read (d : DiskS) (dp : Nat) (s : List Chunk) (hR : DiskR d dp s) (o m : Nat) (h : o + m ≤ d.vi.length) (ho : o < d.vi.length) :
    DoesR Tryz.prog 16 #[.pointer (some ⟨dp, 0, none⟩), .int .i64 (o : Int), .int .i64 (m : Int)] [s] (if d.off then .tuple #[.string (str []), .int .i64 221] else .tuple #[.string (str ((d.vi.drop o).take m)), .int .i64 0]) := by
  obtain ⟨⟨hl, h1, h4, hlf⟩, bd, bv, pv, sp, hr, rfl⟩ := hR
  obtain ⟨off, left, du, vi, pend⟩ := d
  simp only at *
  cases off with
  | true =>
    refine does_mono (does_frame (read_off left dp bd bv vi.length pv 103 o m) [(bd, .cells (byc du) 5 (0, 0)) :: (bv, .cells (byc vi) 5 (0, 0)) :: sp] (by simp)) ?_
    rintro v _ ⟨H2, ⟨rfl, rfl⟩, rfl⟩
    exact ⟨_, ⟨rfl, rfl⟩, by simp⟩
  | false =>
    have hp : ∀ (x y z : Chunk) (t : List Chunk), (x :: y :: z :: t).Perm (x :: z :: y :: t) := fun x y z t => (List.Perm.swap z y t).cons x
    refine does_perm (does_frame (H := [(dp, .cells (dkc false left bd bv vi.length pv) 103 (0, 0)) :: (bv, .cells (byc vi) 5 (0, 0)) :: (bd, .cells (byc du) 5 (0, 0)) :: sp]) (read_spec left dp bd bv vi.length pv vi 103 5 rfl h4 o m h ho) [[(bd, .cells (byc du) 5 (0, 0))], sp] (by simp)) ?_ ?_
    · simp only [List.flatten_cons, List.flatten_nil, List.append_nil]; exact hp _ _ _ _
    · rintro v _ ⟨H2, ⟨rfl, rfl⟩, rfl⟩
      refine ⟨_, ⟨rfl, rfl⟩, ?_⟩
      simp only [List.flatten_cons, List.flatten_nil, List.append_nil, List.cons_append, List.nil_append]; exact hp _ _ _ _

end Go.Proofs.YthbadolcncojbaaGreatDoor
