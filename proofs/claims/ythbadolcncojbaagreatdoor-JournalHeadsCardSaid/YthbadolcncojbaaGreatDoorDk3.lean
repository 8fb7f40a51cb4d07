/- Contracts: package disk. Contracts: disk.Write, Sync, Read. Package disk over a plain state. -/
import Derived.Test.YthbadolcncojbaaGreatDoorEz
import Derived.Test.YthbadolcncojbaaGreatDoorWi2
import Derived.Test.YthbadolcncojbaaGreatDoorEx8

namespace Go.Proofs.YthbadolcncojbaaGreatDoor
open Go.Proofs.Tryz
open Go Go.RowKit Gw
set_option linter.unusedVariables false
set_option linter.unusedSimpArgs false
set_option maxRecDepth 100000
attribute [local irreducible] Gw.At Gw.Nx Gw.Ops
/-- The cells of a disk. -/
abbrev dkc (off : Bool) (left : Nat) (bd bv n : Nat) (pv : Value) : Array Value := #[.bool off, .int .i64 (left : Int), .slice (some ⟨bd, 0, none⟩) n n, .slice (some ⟨bv, 0, none⟩) n n, pv]
abbrev byc (l : List UInt8) : Array Value := (l.map u8v).toArray
/-- s is laid over l from o on. -/
def splice (l : List UInt8) (o : Nat) (s : List UInt8) : List UInt8 := l.take o ++ s ++ l.drop (o + s.length)
theorem splice_len (l : List UInt8) (o : Nat) (s : List UInt8) (h : o + s.length ≤ l.length) : (splice l o s).length = l.length := by unfold splice; simp; omega
theorem over_splice (l : List UInt8) (o : Nat) (s : List UInt8) : over (byc l) o (s.map u8v) = byc (splice l o s) := by
  unfold over byc splice
  simp [List.map_take, List.map_drop]
theorem byc_size (l : List UInt8) : (byc l).size = l.length := by simp [byc]
theorem rep_u8 (n : Nat) : (List.replicate n (Value.int .u8 0)).toArray = byc (List.replicate n 0) := by simp [byc, u8v]
/-- What a write leaves of the power. -/
def usedOff (off : Bool) (left : Nat) : Bool := if left = 0 then off else decide (left - 1 = 0)
def usedLeft (left : Nat) : Nat := left - 1
theorem used_cells (off : Bool) (left bd bv n : Nat) (pv : Value) (h : ¬ left = 0) : ((dkc off left bd bv n pv).setIfInBounds 1 (.int .i64 ((left - 1 : Nat) : Int))).setIfInBounds 0 (.bool (decide (left - 1 = 0))) = dkc (usedOff off left) (usedLeft left) bd bv n pv := by
  unfold usedOff; rw [if_neg h]; rfl

theorem check_on (dp left bd bv n : Nat) (pv : Value) (Td : TypeId) : DoesR Tryz.prog 61 #[.pointer (some ⟨dp, 0, none⟩)] [[(dp, .cells (dkc false left bd bv n pv) Td (0, 0))]] (.int .i64 0) := by
 refine spec_enter func61 rfl ntmps61 rfl ?_
 intro u R
 refine Zb [0] ?_
 refine Zq <| Zg <| Za Y <| Z0 <| Zx <| Zq <| at_block <| Zq <| Zg <| Zm Y ?_
 first | refine op_v (p_eql_nil_nil underlying26 Y Y) ?_ | refine op_v (p_eql_ptr_nil underlying26 Y Y) ?_
 refine Za Y <| Z0 <| Zx ?_
 refine at_if_bool Y (fun hc1 => ?_) (fun hc1 => ?_)
 ·
  cases hc1
 ·
  refine Zq <| Zg <| Zm Y <| Zp Y rfl <| Zh 0 underlying103 rfl rfl sizeOf100 Y <| Zv (p_fieldAddr1 (off := 0) underlying100 rfl rfl sizeOf4 Y) <| Zl isAgg4 Y ?_
  refine Za Y <| Z0 <| Zx ?_
  refine at_if_bool Y (fun hc2 => ?_) (fun hc2 => ?_)
  ·
   cases hc2
  ·
   refine at_skip <| nx_block_normal <| Zx <| Zq <| Zg <| Za Y <| Z0 <| Zx <| at_ret ?_
   refine nx_end1 rfl results61 Y (by exact ⟨rfl, rfl⟩)

theorem check_off (dp left bd bv n : Nat) (pv : Value) (Td : TypeId) : DoesR Tryz.prog 61 #[.pointer (some ⟨dp, 0, none⟩)] [[(dp, .cells (dkc true left bd bv n pv) Td (0, 0))]] (.int .i64 221) := by
 refine spec_enter func61 rfl ntmps61 rfl ?_
 intro u R
 refine Zb [0] ?_
 refine Zq <| Zg <| Za Y <| Z0 <| Zx <| Zq <| at_block <| Zq <| Zg <| Zm Y ?_
 first | refine op_v (p_eql_nil_nil underlying26 Y Y) ?_ | refine op_v (p_eql_ptr_nil underlying26 Y Y) ?_
 refine Za Y <| Z0 <| Zx ?_
 refine at_if_bool Y (fun hc1 => ?_) (fun hc1 => ?_)
 ·
  cases hc1
 ·
  refine Zq <| Zg <| Zm Y <| Zp Y rfl <| Zh 0 underlying103 rfl rfl sizeOf100 Y <| Zv (p_fieldAddr1 (off := 0) underlying100 rfl rfl sizeOf4 Y) <| Zl isAgg4 Y ?_
  refine Za Y <| Z0 <| Zx ?_
  refine at_if_bool Y (fun hc2 => ?_) (fun hc2 => ?_)
  ·
   refine Zq <| Zg <| Za Y <| Z0 <| Zx <| at_ret <| nx_block_ret <| Zt ?_
   refine nx_end1 rfl results61 Y (by exact ⟨rfl, rfl⟩)
  ·
   cases hc2

theorem inside_yes (off : Bool) (a m : Nat) (dp left bd bv n : Nat) (pv : Value) (Td : TypeId) (h : a + m ≤ n) (hn : n ≤ 4194304) : DoesR Tryz.prog 62 #[.pointer (some ⟨dp, 0, none⟩), .int .i64 (a : Int), .int .i64 (m : Int)] [[(dp, .cells (dkc off left bd bv n pv) Td (0, 0))]] (.bool true) := by
 refine spec_enter func62 rfl ntmps62 rfl ?_
 intro u R
 refine Zb [0, 1, 2] ?_
 refine Zq <| Zg <| Za Y <| Z0 <| Zx <| Zq <| Zg <| Zm Y ?_
 first | refine op_v (p_geq_nat (n := 0) Y Y) ?_ | refine op_v (p_geq Y Y) ?_
 refine Zm Y ?_
 first | refine ops_split (t := 9) Y rfl (fun hc1 => ?_) (fun hc1 => ?_) | refine ops_split_bool (t := 9) Y rfl (fun hc1 => ?_) (fun hc1 => ?_)
 ·
  refine Zf Y Y ?_
  first | refine op_wg Y (p_geq_nat (n := 0) Y Y) rfl rfl ?_ | refine op_wg Y (p_geq Y Y) rfl rfl ?_
  refine Zv (p_pick_t Y Y) <| Zm Y ?_
  first | refine ops_split (t := 13) Y rfl (fun hc2 => ?_) (fun hc2 => ?_) | refine ops_split_bool (t := 13) Y rfl (fun hc2 => ?_) (fun hc2 => ?_)
  ·
   refine Zf Y Y <| Zf Y Y <| op_wg Y (p_nilChk Y rfl) rfl rfl ?_
   refine op_wg Y (p_fieldAddr0 (off := 2) underlying103 rfl rfl sizeOf36 Y) rfl rfl ?_
   refine op_rg Y (by repeat (first | exact Has.here _ | apply Has.there)) (p_load isAgg36 Y (by rfl)) rfl rfl ?_
   refine op_wg Y (p_len_slice underlying36 Y) rfl rfl ?_
   first | refine op_wg Y (p_leq_nat Y Y) rfl rfl ?_ | refine op_wg Y (p_leq Y Y) rfl rfl ?_
   refine Zv (p_pick_t Y Y) <| Zm Y ?_
   first | refine ops_split (t := 22) Y rfl (fun hc3 => ?_) (fun hc3 => ?_) | refine ops_split_bool (t := 22) Y rfl (fun hc3 => ?_) (fun hc3 => ?_)
   ·
    refine Zf Y Y <| Zf Y Y <| op_wg Y (p_nilChk Y rfl) rfl rfl ?_
    refine op_wg Y (p_fieldAddr0 (off := 2) underlying103 rfl rfl sizeOf36 Y) rfl rfl ?_
    refine op_rg Y (by repeat (first | exact Has.here _ | apply Has.there)) (p_load isAgg36 Y (by rfl)) rfl rfl ?_
    refine op_wg Y (p_len_slice underlying36 Y) rfl rfl ?_
    refine Zf Y Y ?_
    first | (refine op_wg Y (p_sub_nat Y Y ?_ ?_) rfl rfl ?_; (focus (omega)); (focus (omega))) | (refine op_wg Y (p_sub Y Y (IntWalk.i64_in _ ?_)) rfl rfl ?_; (focus (omega)))
    first | refine op_wg Y (p_leq_nat Y Y) rfl rfl ?_ | refine op_wg Y (p_leq Y Y) rfl rfl ?_
    refine Zv (p_pick_t Y Y) <| Za Y <| Z0 <| Zn [6] ?_
    refine Zx <| at_ret ?_
    refine nx_end1 rfl results62 Y (by exact ⟨by first | rfl | (simp; omega) | (exfalso; omega) | (congr 1; simp; omega), rfl⟩)
   ·
    refine op_skip Y rfl <| op_skip Y rfl <| op_skip Y rfl <| op_skip Y rfl <| op_skip Y rfl <| op_skip Y rfl <| op_skip Y rfl <| op_skip Y rfl <| op_skip Y rfl <| Zv (p_pick_f Y Y) <| Za Y <| Z0 <| Zn [6] ?_
    refine Zx <| at_ret ?_
    refine nx_end1 rfl results62 Y (by exact ⟨by first | rfl | (simp; omega) | (exfalso; omega) | (congr 1; simp; omega), rfl⟩)
  ·
   refine op_skip Y rfl <| op_skip Y rfl <| op_skip Y rfl <| op_skip Y rfl <| op_skip Y rfl <| op_skip Y rfl <| op_skip Y rfl <| Zv (p_pick_f Y Y) <| Zm Y <| op_skip Y rfl <| op_skip Y rfl <| op_skip Y rfl <| op_skip Y rfl <| op_skip Y rfl <| op_skip Y rfl <| op_skip Y rfl <| op_skip Y rfl <| op_skip Y rfl <| Zv (p_pick_f Y Y) <| Za Y <| Z0 <| Zn [6] ?_
   refine Zx <| at_ret ?_
   refine nx_end1 rfl results62 Y (by exact ⟨by first | rfl | (simp; omega) | (exfalso; omega) | (congr 1; simp; omega), rfl⟩)
 ·
  refine op_skip Y rfl <| op_skip Y rfl <| Zv (p_pick_f Y Y) <| Zm Y <| op_skip Y rfl <| op_skip Y rfl <| op_skip Y rfl <| op_skip Y rfl <| op_skip Y rfl <| op_skip Y rfl <| op_skip Y rfl <| Zv (p_pick_f Y Y) <| Zm Y <| op_skip Y rfl <| op_skip Y rfl <| op_skip Y rfl <| op_skip Y rfl <| op_skip Y rfl <| op_skip Y rfl <| op_skip Y rfl <| op_skip Y rfl <| op_skip Y rfl <| Zv (p_pick_f Y Y) <| Za Y ?_
  refine Z0 <| Zn [6] ?_
  refine Zx <| at_ret ?_
  refine nx_end1 rfl results62 Y (by exact ⟨by first | rfl | (simp; omega) | (exfalso; omega) | (congr 1; simp; omega), rfl⟩)

theorem size_spec (off : Bool) (dp left bd bv n : Nat) (pv : Value) (Td : TypeId) : DoesR Tryz.prog 43 #[.pointer (some ⟨dp, 0, none⟩)] [[(dp, .cells (dkc off left bd bv n pv) Td (0, 0))]] (.int .i64 (n : Int)) := by
 refine spec_enter func43 rfl ntmps43 rfl ?_
 intro u R
 refine Zb [0] ?_
 refine Zq <| Zg <| Za Y <| Z0 <| Zx <| Zq <| Zq <| Zg <| Zm Y ?_
 first | refine op_v (p_eql_nil_nil underlying26 Y Y) ?_ | refine op_v (p_eql_ptr_nil underlying26 Y Y) ?_
 refine Z0 <| Zx ?_
 refine at_if_bool Y (fun hc1 => ?_) (fun hc1 => ?_)
 ·
  cases hc1
 ·
  refine at_skip <| Zx <| Zq <| Zg <| Zm Y <| Zp Y rfl <| Zh 2 underlying103 rfl rfl sizeOf36 Y <| Zl isAgg36 Y ?_
  refine Zv (p_len_slice underlying36 Y) <| Za Y <| Z0 <| Zx <| at_ret ?_
  refine nx_end1 rfl results43 Y (by exact ⟨rfl, rfl⟩)

theorem used_spec (off : Bool) (left : Nat) (hl : left ≤ 4194304) (dp bd bv n : Nat) (pv : Value) (Td : TypeId) : Does Tryz.prog 67 #[.pointer (some ⟨dp, 0, none⟩)] [[(dp, .cells (dkc off left bd bv n pv) Td (0, 0))]] (fun r H' => r = .tuple #[] ∧ H' = [[(dp, .cells (dkc (usedOff off left) (usedLeft left) bd bv n pv) Td (0, 0))]]) := by
 refine spec_enter func67 rfl ntmps67 rfl ?_
 intro u R
 refine Zb [0] ?_
 refine Zq <| Zq <| Zg <| Zm Y <| Zp Y rfl <| Zh 1 underlying100 rfl rfl sizeOf3 Y <| Zl isAgg3 Y ?_
 first | refine op_v (p_eql_nat (n := 0) Y Y) ?_ | refine op_v (p_eql Y Y) ?_
 refine Z0 <| Zx ?_
 first | refine at_if Y (fun hc1 => ?_) (fun hc1 => ?_) | refine at_if_bool Y (fun hc1 => ?_) (fun hc1 => ?_)
 ·
  subst hc1
  refine at_ret <| Zt ?_
  refine nx_end0 rfl results67 (by exact ⟨rfl, (rfl : ([[(dp, Obj.cells (dkc off 0 bd bv n pv) Td (0, 0))]] : Hp) = _)⟩)
 ·
  refine at_skip <| Zx <| Zq <| Zg <| Zm Y <| Zp Y rfl <| Zh 1 underlying100 rfl rfl sizeOf3 Y <| Zl isAgg3 Y ?_
  first | (refine op_v (p_sub_nat (n := 1) Y Y ?_ ?_) ?_; (focus (omega)); (focus (omega))) | (refine op_v (p_sub Y Y (IntWalk.i64_in _ ?_)) ?_; (focus (omega)))
  refine Zp Y rfl <| Zh 1 underlying100 rfl rfl sizeOf3 Y <| Ze (Zs sizeOf3 Y Y rfl) ?_
  rintro _ _ ⟨rfl, rfl⟩
  refine Z0 <| Zn [0] ?_
  refine Zx <| Zg <| Zm Y <| Zm Y <| Zp Y rfl <| Zh 1 underlying100 rfl rfl sizeOf3 Y <| Zl isAgg3 Y ?_
  first | refine op_v (p_eql_nat (n := 0) Y Y) ?_ | refine op_v (p_eql Y Y) ?_
  refine Zp Y rfl <| Zh 0 underlying100 rfl rfl sizeOf4 Y <| Ze (Zs sizeOf4 Y Y rfl (hc := by exact used_cells off left bd bv n pv hc1)) ?_
  rintro _ _ ⟨rfl, rfl⟩
  refine Z0 ?_
  refine nx_end0 rfl results67 (by exact ⟨rfl, rfl⟩)

theorem disk_new (n : Nat) (h1 : 1 ≤ n) (h2 : n ≤ 4194304) : Does Tryz.prog 9 #[.int .i64 (n : Int)] [] (fun r H' => ∃ dp bd bv, r = .tuple #[.pointer (some ⟨dp, 0, none⟩), .int .i64 0] ∧ H' = [[(dp, .cells (dkc false 0 bd bv n (.slice none 0 0)) 103 (0, 0))], [(bd, .cells (List.replicate n (.int .u8 0)).toArray 5 (0, 0))], [(bv, .cells (List.replicate n (.int .u8 0)).toArray 5 (0, 0))]]) := by
 refine spec_enter func9 rfl ntmps9 rfl ?_
 intro u R
 refine Zb [0] ?_
 refine Zq <| Zg <| Za Y <| Za Y <| Z0 <| Zx <| Zq <| Zq <| Zg <| Zm Y ?_
 first | refine op_v (p_lss_nat (n := 1) Y Y) ?_ | refine op_v (p_lss Y Y) ?_
 refine Zm Y ?_
 first | refine ops_split (t := 6) Y rfl (fun hc1 => ?_) (fun hc1 => ?_) | refine ops_split_bool (t := 6) Y rfl (fun hc1 => ?_) (fun hc1 => ?_)
 ·
  exfalso; omega
 ·
  refine Zf Y Y ?_
  first | refine op_wg Y (p_gtr_nat (n := 4194304) Y Y) rfl rfl ?_ | refine op_wg Y (p_gtr Y Y) rfl rfl ?_
  refine Zv (p_pick_f Y Y) <| Z0 <| Zx ?_
  first | refine at_if Y (fun hc2 => ?_) (fun hc2 => ?_) | refine at_if_bool Y (fun hc2 => ?_) (fun hc2 => ?_)
  ·
   exfalso; omega
  ·
   refine at_skip <| Zx <| Zq <| at_draw (n := 8) (0 :: 1 :: 0 :: 4 :: 15 :: 31 :: 63 :: 127 :: []) 42 (by kernel_rfl) (by kernel_rfl) rfl ?_
   refine Zi 1 0 rfl (p_move Y) <| Zi 5 2 rfl (p_move Y) <| Zz (l := [1, 3]) ?_
   refine Zy 1 7 [] [] [] rfl Y rfl rfl rfl rfl (w_makeSlice (by_ := 1) underlying36 (rfl : Tryz.prog.info? 5 = some Tryz.t5) rfl rfl rfl rfl Y Y ?_ ?_ ?_) ?hk_1 (fun _ _ h => h.elim) ?hl_1
   (focus (omega))
   (focus (omega))
   (focus (omega))
   case hk_1 =>
    rintro _ _ ⟨bd, rfl, rfl⟩
    refine ⟨keep_nil, ?_⟩
    refine Zz (l := [3]) ?_
    refine Zy 4 15 [] [] [] rfl Y rfl rfl rfl rfl (w_makeSlice (by_ := 1) underlying36 (rfl : Tryz.prog.info? 5 = some Tryz.t5) rfl rfl rfl rfl Y Y ?_ ?_ ?_) ?hk_2 (fun _ _ h => h.elim) ?hl_2
    (focus (omega))
    (focus (omega))
    (focus (omega))
    case hk_2 =>
     rintro _ _ ⟨bv, rfl, rfl⟩
     refine ⟨keep_nil, ?_⟩
     refine Zi 31 4 rfl (p_build (vs := [(1, _), (2, _)]) (cs := #[_, _, _, _, _]) Y (run_build_struct (pl := #[(0, 2), (2, 1), (3, 1), (4, 1)]) zeroValue103 underlying103 (fun _ => by kernel_rfl) rfl)) ?_
     refine Zz (l := [5]) ?_
     refine Zy 31 63 [] [] [] rfl Y rfl rfl rfl rfl (w_box Y (cs := #[_, _, _, _, _]) rfl) ?hk_3 (fun _ _ h => h.elim) ?hl_3
     case hk_3 =>
      rintro _ _ ⟨dp, rfl, rfl⟩
      refine ⟨keep_nil, ?_⟩
      refine Zi 127 6 rfl (p_assign Y) <| Zi 255 7 rfl (p_assign Y) <| lin_nil ?_
      refine Zn [2, 3] ?_
      refine Zx <| at_ret ?_
      refine nx_end2 rfl results9 Y Y (by exact ⟨dp, bd, bv, rfl, rfl⟩)
     case hl_3 =>
      exact each_nil
    case hl_2 =>
     exact each_nil
   case hl_1 =>
    refine Zy 4 13 [] [] [] rfl Y rfl rfl rfl rfl (w_makeSlice (by_ := 1) underlying36 (rfl : Tryz.prog.info? 5 = some Tryz.t5) rfl rfl rfl rfl Y Y ?_ ?_ ?_) ?hk_5 (fun _ _ h => h.elim) ?hl_5
    (focus (omega))
    (focus (omega))
    (focus (omega))
    case hk_5 =>
     rintro _ _ ⟨bv, rfl, rfl⟩
     refine ⟨keep_nil, ?_⟩
     refine Zz (l := [1]) ?_
     refine Zy 1 15 [] [] [] rfl Y rfl rfl rfl rfl (w_makeSlice (by_ := 1) underlying36 (rfl : Tryz.prog.info? 5 = some Tryz.t5) rfl rfl rfl rfl Y Y ?_ ?_ ?_) ?hk_6 (fun _ _ h => h.elim) ?hl_6
     (focus (omega))
     (focus (omega))
     (focus (omega))
     case hk_6 =>
      rintro _ _ ⟨bd, rfl, rfl⟩
      refine ⟨keep_nil, ?_⟩
      refine Zi 31 4 rfl (p_build (vs := [(1, _), (2, _)]) (cs := #[_, _, _, _, _]) Y (run_build_struct (pl := #[(0, 2), (2, 1), (3, 1), (4, 1)]) zeroValue103 underlying103 (fun _ => by kernel_rfl) rfl)) ?_
      refine Zz (l := [5]) ?_
      refine Zy 31 63 [] [] [] rfl Y rfl rfl rfl rfl (w_box Y (cs := #[_, _, _, _, _]) rfl) ?hk_7 (fun _ _ h => h.elim) ?hl_7
      case hk_7 =>
       rintro _ _ ⟨dp, rfl, rfl⟩
       refine ⟨keep_nil, ?_⟩
       refine Zi 127 6 rfl (p_assign Y) <| Zi 255 7 rfl (p_assign Y) <| lin_nil ?_
       refine Zn [2, 3] ?_
       refine Zx <| at_ret ?_
       refine nx_end2 rfl results9 Y Y (by exact ⟨dp, bd, bv, rfl, rfl⟩)
      case hl_7 =>
       exact each_nil
     case hl_6 =>
      exact each_nil
    case hl_5 =>
     exact each_nil

theorem bytes_all (l : List UInt8) : CellsIn (byc l) 0 (l.map u8v) := by
  unfold CellsIn byc
  rw [List.drop_zero]
  exact List.take_of_length_le (Nat.le_refl _)

theorem onto_spec (o n bv : Nat) (s vi : List UInt8) (Tv : TypeId) (h : o + s.length ≤ n) (ho : o < n) (hn : n ≤ 4194304) (hv : vi.length = n) :
    Does Tryz.prog 66 #[.agg #[.int .i64 (o : Int), .string (str s)], .slice (some ⟨bv, 0, none⟩) n n] [[(bv, .cells (byc vi) Tv (0, 0))]] (fun r H' => r = .tuple #[] ∧ H' = [[(bv, .cells (byc (splice vi o s)) Tv (0, 0))]]) := by
 refine spec_enter func66 rfl ntmps66 rfl ?_
 intro u R
 refine Zb [0, 1] ?_
 refine Zq <| Zg <| Ze (w_box Y (cs := #[_, _]) rfl) ?_
 rintro _ _ ⟨b1, rfl, rfl⟩
 refine Z0 <| Zx <| at_draw (n := 7) (0 :: 0 :: 2 :: 7 :: 0 :: 16 :: 63 :: []) 64 (by kernel_rfl) (by kernel_rfl) rfl ?_
 refine Zi 1 0 rfl (p_move Y) <| Zi 3 1 rfl (p_fieldAddr0 (off := 0) underlying139 rfl rfl sizeOf3 Y) <| Zj 7 2 rfl isAgg3 Y ?_
 (refine lin_v (D' := 15) 3 (p_slice_slice_from1 underlying36 sizeOf5 Y Y ?_ ?_) ?_; (focus (omega)); (focus (omega)))
 refine Zi 31 4 rfl (p_fieldAddr0 (off := 1) underlying139 rfl rfl sizeOf9 Y) <| Zj 63 5 rfl isAgg9 Y ?_
 refine Zz (l := [6]) ?_
 refine Zy 63 127 [5, 2] [false, false] [] rfl Y rfl rfl rfl rfl (w_copy_str (cs := s.map u8v) (c' := byc (splice vi o s)) underlying36 sizeOf5 Y Y (by repeat (first | exact Upd.here _ | apply Upd.there)) (by rw [str_list, List.take_of_length_le (by omega)]) (by rw [Nat.zero_add]; exact over_splice vi o s) (by rw [byc_size, List.length_map]; omega) (free_zero _)) ?hk_1 (fun _ _ h => h.elim) ?hl_1
 case hk_1 =>
  rintro _ _ ⟨rfl, rfl⟩
  refine ⟨keep_nil, ?_⟩
  refine lin_nil ?_
  refine nx_end0 rfl results66 (by exact ⟨rfl, rfl⟩)
 case hl_1 =>
  exact each_nil

theorem settle_spec (off : Bool) (dp left bd bv n bf bt k : Nat) (pv : Value) (xs : List Value) (sp : List Chunk) (fl tl : List UInt8) (Td Tf Tt : TypeId) (hf : fl.length = n) (ht : tl.length = n) (hn : n ≤ 4194304) (hr : RowS 2 139 pv k xs sp) :
    Does Tryz.prog 83 #[.pointer (some ⟨dp, 0, none⟩), .slice (some ⟨bf, 0, none⟩) n n, .slice (some ⟨bt, 0, none⟩) n n] [[(dp, .cells (dkc off left bd bv n pv) Td (0, 0))], [(bf, .cells (byc fl) Tf (0, 0))], [(bt, .cells (byc tl) Tt (0, 0))], sp]
      (fun r H' => r = .tuple #[] ∧ ∃ b c sp', RowS 2 139 (.slice b 0 c) 0 [] sp' ∧ H' = [[(dp, .cells (dkc off left bd bv n (.slice b 0 c)) Td (0, 0))], [(bf, .cells (byc fl) Tf (0, 0))], [(bt, .cells (byc fl) Tt (0, 0))], sp']) := by
 refine spec_enter func83 rfl ntmps83 rfl ?_
 intro u R
 obtain ⟨b, c, rfl⟩ := hr.form
 refine Zb [0, 1, 2] ?_
 refine Zq <| Zg <| Zm Y <| Zm Y <| Ze (w_copy (cs := fl.map u8v) (c' := byc fl) underlying36 sizeOf5 Y Y (by repeat (first | exact Has.here _ | apply Has.there)) (by repeat (first | exact Upd.here _ | apply Upd.there)) (bytes_all fl) (by rw [List.length_map, hf, Nat.min_self]) (over_new _ _ (by simp [byc]; omega)) (by rw [byc_size, List.length_map]; omega) (free_zero _) (bytes_one fl)) ?_
 rintro _ _ ⟨rfl, rfl⟩
 refine Z0 <| Zx <| Zq <| Zg <| Zm Y <| Zp Y rfl <| Zh 4 underlying103 rfl rfl sizeOf101 Y <| Zl isAgg101 Y ?_
 refine Ze (w_clearS underlying101 (rfl : Tryz.prog.info? 139 = some Tryz.t139) rfl rfl (by simp [Value.cells, Value.oneCell']) Y hr (by repeat (first | exact One.here _ _ | apply One.there))) ?_
 rintro _ _ ⟨xsq, sq, hrq, rfl⟩
 refine Z0 <| Zx <| Zg <| Zm Y <| Zm Y <| Zp Y rfl <| Zh 4 underlying103 rfl rfl sizeOf101 Y <| Zl isAgg101 Y ?_
 (refine op_v (p_slice_slice_to (h := 0) underlying101 sizeOf139 Y Y ?_) ?_; (focus (first | exact Nat.zero_le _ | decide | exact Nat.le_refl _ | (simp; done) | (simp; omega))))
 refine Zp Y rfl <| Zh 4 underlying103 rfl rfl sizeOf101 Y <| Ze (Zs sizeOf101 Y Y rfl (hi := by first | exact Nat.zero_le _ | decide | exact Nat.le_refl _ | (simp; done) | (simp; omega))) ?_
 rintro _ _ ⟨rfl, rfl⟩
 refine Z0 ?_
 refine nx_end0 rfl results83 (by exact ⟨rfl, b, c, sq, hrq.cut, rfl⟩)

theorem sync_spec (left dp bd bv n k : Nat) (pv : Value) (xs : List Value) (sp : List Chunk) (du vi : List UInt8) (hd : du.length = n) (hv : vi.length = n) (hn : n ≤ 4194304) (hr : RowS 2 139 pv k xs sp) : Does Tryz.prog 48 #[.pointer (some ⟨dp, 0, none⟩)] [[(dp, .cells (dkc false left bd bv n pv) 103 (0, 0))], [(bd, .cells (byc du) 5 (0, 0))], [(bv, .cells (byc vi) 5 (0, 0))], sp] (fun r H' => r = .int .i64 0 ∧ ∃ b c sp', RowS 2 139 (.slice b 0 c) 0 [] sp' ∧ H' = [[(dp, .cells (dkc false left bd bv n (.slice b 0 c)) 103 (0, 0))], [(bd, .cells (byc vi) 5 (0, 0))], [(bv, .cells (byc vi) 5 (0, 0))], sp']) := by
 refine spec_enter func48 rfl ntmps48 rfl ?_
 intro u R
 refine Zb [0] ?_
 refine Zq <| Zg <| Za Y <| Z0 <| Zx <| Zq <| Zg <| Zm Y <| Zr [_] Y call61 Y rfl (check_on _ _ _ _ _ _ _) ?_
 rintro _ _ ⟨rfl, rfl⟩
 refine Za Y <| Z0 <| Zx <| Zq <| Zq <| Zg <| Zm Y ?_
 first | refine op_v (p_eql_nat (n := 0) Y Y) ?_ | refine op_v (p_eql Y Y) ?_
 refine Z0 <| Zx ?_
 first | refine at_if Y (fun hc1 => ?_) (fun hc1 => ?_) | refine at_if_bool Y (fun hc1 => ?_) (fun hc1 => ?_)
 ·
  refine at_draw (n := 10) (0 :: 0 :: 2 :: 6 :: 14 :: 0 :: 32 :: 96 :: 224 :: 511 :: []) 512 (by kernel_rfl) (by kernel_rfl) rfl ?_
  refine Zi 1 0 rfl (p_move Y) <| Zi 3 1 rfl (p_move Y) <| Zi 7 2 rfl (p_nilChk Y rfl) <| Zi 15 3 rfl (p_fieldAddr0 (off := 3) underlying103 rfl rfl sizeOf36 Y) <| Zj 31 4 rfl isAgg36 Y ?_
  refine Zi 63 5 rfl (p_move Y) <| Zi 127 6 rfl (p_nilChk Y rfl) <| Zi 255 7 rfl (p_fieldAddr0 (off := 2) underlying103 rfl rfl sizeOf36 Y) <| Zj 511 8 rfl isAgg36 Y ?_
  refine Zz (l := [9]) ?_
  refine Zy 511 1023 [8, 4] [false, false] [] rfl Y rfl rfl rfl rfl (Zw [_, _, _] Y call83 Y rfl (settle_spec _ _ _ _ _ _ _ _ _ _ _ _ _ _ _ _ _ hv hd hn hr)) ?hk_1 no_pan ?hl_1
  case hk_1 =>
   rintro _ _ ⟨_, ⟨rfl, b, c, sq, hrq, rfl⟩, rfl⟩
   refine ⟨keep_nil, ?_⟩
   refine lin_nil ?_
   refine Zn [3] ?_
   refine Zx <| Zq <| Zg <| Zm Y <| Za Y <| Z0 <| Zx <| at_ret ?_
   refine nx_end1 rfl results48 Y (by exact ⟨rfl, b, c, sq, hrq, rfl⟩)
  case hl_1 =>
   exact each_nil
 ·
  exact absurd rfl hc1

theorem sync_off (left dp bd bv n : Nat) (pv : Value) (Td : TypeId) : DoesR Tryz.prog 48 #[.pointer (some ⟨dp, 0, none⟩)] [[(dp, .cells (dkc true left bd bv n pv) Td (0, 0))]] (.int .i64 221) := by
 refine spec_enter func48 rfl ntmps48 rfl ?_
 intro u R
 refine Zb [0] ?_
 refine Zq <| Zg <| Za Y <| Z0 <| Zx <| Zq <| Zg <| Zm Y <| Zr [_] Y call61 Y rfl (check_off _ _ _ _ _ _ _) ?_
 rintro _ _ ⟨rfl, rfl⟩
 refine Za Y <| Z0 <| Zx <| Zq <| Zq <| Zg <| Zm Y ?_
 first | refine op_v (p_eql_nat (n := 0) Y Y) ?_ | refine op_v (p_eql Y Y) ?_
 refine Z0 <| Zx ?_
 first | refine at_if Y (fun hc1 => ?_) (fun hc1 => ?_) | refine at_if_bool Y (fun hc1 => ?_) (fun hc1 => ?_)
 ·
  exact absurd hc1 (by decide)
 ·
  refine at_skip <| Zx <| Zq <| Zg <| Zm Y <| Za Y <| Z0 <| Zx <| at_ret ?_
  refine nx_end1 rfl results48 Y (by exact ⟨rfl, rfl⟩)

theorem write_off (left dp bd bv n : Nat) (o : Int) (s : ByteArray) (pv : Value) (Td : TypeId) : DoesR Tryz.prog 21 #[.pointer (some ⟨dp, 0, none⟩), .int .i64 o, .string s] [[(dp, .cells (dkc true left bd bv n pv) Td (0, 0))]] (.int .i64 221) := by
 refine spec_enter func21 rfl ntmps21 rfl ?_
 intro u R
 refine Zb [0, 1, 2] ?_
 refine Zq <| Zg <| Za Y <| Z0 <| Zx <| Zq <| Zq <| Zg <| Zm Y <| Zr [_] Y call61 Y rfl (check_off _ _ _ _ _ _ _) ?_
 rintro _ _ ⟨rfl, rfl⟩
 refine Za Y <| Z0 <| Zx <| Zq <| Zg <| Zm Y ?_
 first | refine op_v (p_neq_nat (n := 0) Y Y) ?_ | refine op_v (p_neq Y Y) ?_
 refine Z0 <| Zx ?_
 first | refine at_if Y (fun hc1 => ?_) (fun hc1 => ?_) | refine at_if_bool Y (fun hc1 => ?_) (fun hc1 => ?_)
 ·
  refine Zq <| Zg <| Zm Y <| Za Y <| Z0 <| Zx <| at_ret <| Zt ?_
  refine nx_end1 rfl results21 Y (by exact ⟨rfl, rfl⟩)
 ·
  exact absurd (by decide) hc1

theorem write_spec (left dp bd bv n k : Nat) (pv : Value) (xs : List Value) (sp : List Chunk) (du vi : List UInt8) (hd : du.length = n) (hv : vi.length = n) (hn : n ≤ 4194304) (hr : RowS 2 139 pv k xs sp) (o : Nat) (s : List UInt8) (h : o + s.length ≤ n) (ho : o < n) (hl : left ≤ 4194304) (hk : k ≤ 1000000) : Does Tryz.prog 21 #[.pointer (some ⟨dp, 0, none⟩), .int .i64 (o : Int), .string (str s)] [[(dp, .cells (dkc false left bd bv n pv) 103 (0, 0))], [(bd, .cells (byc du) 5 (0, 0))], [(bv, .cells (byc vi) 5 (0, 0))], sp] (fun r H' => r = .int .i64 0 ∧ ∃ pv' sp', RowS 2 139 pv' (k + 1) (xs ++ [.int .i64 (o : Int), .string (str s)]) sp' ∧ H' = [[(dp, .cells (dkc (usedOff false left) (usedLeft left) bd bv n pv') 103 (0, 0))], [(bd, .cells (byc du) 5 (0, 0))], [(bv, .cells (byc (splice vi o s)) 5 (0, 0))], sp']) := by
 have hml : maxLen = 9223372036854775807 := rfl
 have hss := str_size s
 obtain ⟨b, c, rfl⟩ := hr.form
 refine spec_enter func21 rfl ntmps21 rfl ?_
 intro u R
 refine Zb [0, 1, 2] ?_
 refine Zq <| Zg <| Za Y <| Z0 <| Zx <| Zq <| Zq <| Zg <| Zm Y <| Zr [_] Y call61 Y rfl (check_on _ _ _ _ _ _ _) ?_
 rintro _ _ ⟨rfl, rfl⟩
 refine Za Y <| Z0 <| Zx <| Zq <| Zg <| Zm Y ?_
 first | refine op_v (p_neq_nat (n := 0) Y Y) ?_ | refine op_v (p_neq Y Y) ?_
 refine Z0 <| Zx ?_
 first | refine at_if Y (fun hc1 => ?_) (fun hc1 => ?_) | refine at_if_bool Y (fun hc1 => ?_) (fun hc1 => ?_)
 ·
  exact absurd rfl hc1
 ·
  refine at_skip <| Zx <| Zq <| Zq ?_
  rw [← hss] at h
  refine Zg <| Zm Y <| Zm Y <| Zm Y <| Zv (p_len_str underlying9 Y) <| Zr [_, _, _] Y call62 Y rfl (inside_yes false o (str s).size _ _ _ _ _ _ _ (by omega) hn) ?_
  rintro _ _ ⟨rfl, rfl⟩
  first | refine op_v (p_not_dec Y) ?_ | refine op_v (p_not Y) ?_
  refine Z0 <| Zx ?_
  refine at_if_bool Y (fun hc2 => ?_) (fun hc2 => ?_)
  ·
   cases hc2
  ·
   refine at_skip <| Zx <| Zq <| Zg <| Zm Y <| Zm Y <| Zv (p_build (vs := [(0, _), (1, _)]) (cs := #[_, _]) Y (run_build_struct (pl := #[(0, 1), (1, 1)]) zeroValue139 underlying139 (fun _ => by kernel_rfl) rfl)) ?_
   refine Ze (w_alloc zeroValue139 (cs := #[_, _]) rfl) ?_
   rintro _ _ ⟨b1, rfl, rfl⟩
   refine Ze (w_store_agg sizeOf139 Y Y (by simp [Value.oneCell', Value.cells]) (by repeat (first | exact Upd.here _ | apply Upd.there)) (by exact (rfl : _ = (#[.int .i64 (o : Int), .string (str s)] : Array Value))) (by first | rfl | (simp; done)) (by first | decide | exact Nat.le_refl _ | (simp; done) | (simp; omega)) (by exact free_zero _)) ?_
   rintro _ _ ⟨rfl, rfl⟩
   refine Z0 <| Zn [0, 8] ?_
   refine Zx <| Zq <| at_draw (n := 11) (0 :: 0 :: 2 :: 6 :: 14 :: 0 :: 32 :: 126 :: 255 :: 511 :: 1023 :: []) 1216 (by kernel_rfl) (by kernel_rfl) rfl ?_
   refine Zi 1 0 rfl (p_move Y) <| Zi 3 1 rfl (p_move Y) <| Zi 7 2 rfl (p_nilChk Y rfl) <| Zi 15 3 rfl (p_fieldAddr0 (off := 4) underlying103 rfl rfl sizeOf101 Y) <| Zj 31 4 rfl isAgg101 Y ?_
   refine lin_r (D' := 63) 5 rfl rfl rfl (by repeat (first | exact Has.here _ | apply Has.there)) (p_load_agg (cs := #[_, _]) isAgg139 sizeOf139 Y (by first | decide | exact Nat.le_refl _ | (simp; done) | (simp; omega)) (by rfl)) ?_
   refine Zz (l := [6]) ?_
   refine Zy 32 127 [5, 4] [false, true] [(4, (_, _))] rfl Y rfl rfl rfl rfl (w_buildSlice (vs := [_]) (cs := [_, _]) underlying101 sizeOf139 zeroValue139 Y rfl rfl rfl rfl rfl) ?hk_1 (fun _ _ h => h.elim) ?hl_1
   case hk_1 =>
    rintro _ _ ⟨bw, rfl, rfl⟩
    refine ⟨Zk (keep_nil), ?_⟩
    refine Zz (l := [7]) ?_
    refine Zy 126 255 [4] [false] [] rfl Y rfl rfl rfl rfl (w_appendS (by_ := 24) (sz := 2) (news := [_, _]) underlying101 (rfl : Tryz.prog.info? 139 = some Tryz.t139) rfl rfl rfl rfl Y hr Y (by repeat (first | exact One.here _ _ | apply One.there)) (by repeat (first | exact Has.here _ | apply Has.there)) (by rfl) rfl (by simp [Value.oneCell']) (by decide) (by omega) (by omega)) ?hk_2 (fun _ _ h => h.elim) ?hl_2
    case hk_2 =>
     rintro _ _ ⟨sq, hrq, rfl⟩
     refine ⟨keep_nil, ?_⟩
     obtain ⟨gq, cq, rfl⟩ := hrq.form
     refine Zi 511 8 rfl (p_nilChk Y rfl) <| Zi 1023 9 rfl (p_fieldAddr0 (off := 4) underlying103 rfl rfl sizeOf101 Y) <| Zz (l := [10]) ?_
     refine Zy 1023 2047 [] [] [] rfl Y rfl rfl rfl rfl (Zs sizeOf101 Y Y rfl) ?hk_3 (fun _ _ h => h.elim) ?hl_3
     case hk_3 =>
      rintro _ _ ⟨rfl, rfl⟩
      refine ⟨keep_nil, ?_⟩
      refine lin_nil ?_
      refine Zx <| Zq <| at_draw (n := 6) (0 :: 0 :: 2 :: 6 :: 14 :: 31 :: []) 32 (by kernel_rfl) (by kernel_rfl) rfl ?_
      refine lin_r (D' := 1) 0 rfl rfl rfl (by repeat (first | exact Has.here _ | apply Has.there)) (p_load_agg (cs := #[_, _]) isAgg139 sizeOf139 Y (by first | decide | exact Nat.le_refl _ | (simp; done) | (simp; omega)) (by rfl)) ?_
      refine Zi 3 1 rfl (p_move Y) <| Zi 7 2 rfl (p_nilChk Y rfl) <| Zi 15 3 rfl (p_fieldAddr0 (off := 3) underlying103 rfl rfl sizeOf36 Y) <| Zj 31 4 rfl isAgg36 Y ?_
      refine Zz (l := [5]) ?_
      refine Zy 31 63 [4, 0] [false, false] [] rfl Y rfl rfl rfl rfl (Zw [_, _] Y call66 Y rfl (onto_spec o n bv s vi _ (by omega) ho hn hv)) ?hk_4 no_pan ?hl_4
      case hk_4 =>
       rintro _ _ ⟨_, ⟨rfl, rfl⟩, rfl⟩
       refine ⟨keep_nil, ?_⟩
       refine lin_nil ?_
       refine Zn [0] ?_
       refine Zx <| Zq <| Zg <| Zm Y <| Zp Y rfl <| Zh 0 underlying103 rfl rfl sizeOf100 Y <| Zc [_] Y call67 Y rfl (used_spec _ _ hl _ _ _ _ _ _) ?_
       rintro _ _ ⟨_, ⟨rfl, rfl⟩, rfl⟩
       refine Z0 <| Zx <| Zq <| Zg <| Za Y <| Z0 <| Zx <| at_ret ?_
       refine nx_end1 rfl results21 Y (by exact ⟨rfl, _, sq, hrq, rfl⟩)
      case hl_4 =>
       exact each_nil
     case hl_3 =>
      exact each_nil
    case hl_2 =>
     exact each_nil
   case hl_1 =>
    exact each_nil

theorem read_spec (left dp bd bv n : Nat) (pv : Value) (vi : List UInt8) (Td Tv : TypeId) (hv : vi.length = n) (hn : n ≤ 4194304) (o m : Nat) (h : o + m ≤ n) (ho : o < n) : DoesR Tryz.prog 16 #[.pointer (some ⟨dp, 0, none⟩), .int .i64 (o : Int), .int .i64 (m : Int)] [[(dp, .cells (dkc false left bd bv n pv) Td (0, 0))], [(bv, .cells (byc vi) Tv (0, 0))]] (.tuple #[.string (str ((vi.drop o).take m)), .int .i64 0]) := by
 refine spec_enter func16 rfl ntmps16 rfl ?_
 intro u R
 refine Zb [0, 1, 2] ?_
 refine Zq <| Zg <| Za Y <| Za Y <| Z0 <| Zx <| Zq <| Zq <| Zg <| Zm Y <| Zr [_] Y call61 Y rfl (check_on _ _ _ _ _ _ _) ?_
 rintro _ _ ⟨rfl, rfl⟩
 refine Za Y <| Z0 <| Zx <| Zq <| Zg <| Zm Y ?_
 first | refine op_v (p_neq_nat (n := 0) Y Y) ?_ | refine op_v (p_neq Y Y) ?_
 refine Z0 <| Zx ?_
 first | refine at_if Y (fun hc1 => ?_) (fun hc1 => ?_) | refine at_if_bool Y (fun hc1 => ?_) (fun hc1 => ?_)
 ·
  exact absurd rfl hc1
 ·
  refine at_skip <| Zx <| Zq <| Zq <| Zg <| Zm Y <| Zm Y <| Zm Y <| Zr [_, _, _] Y call62 Y rfl (inside_yes false o m _ _ _ _ _ _ _ h hn) ?_
  rintro _ _ ⟨rfl, rfl⟩
  first | refine op_v (p_not_dec Y) ?_ | refine op_v (p_not Y) ?_
  refine Z0 <| Zx ?_
  refine at_if_bool Y (fun hc2 => ?_) (fun hc2 => ?_)
  ·
   cases hc2
  ·
   refine at_skip <| Zx <| Zq <| Zg <| Zm Y <| Zp Y rfl <| Zh 3 underlying103 rfl rfl sizeOf36 Y <| Zl isAgg36 Y ?_
   refine Zm Y ?_
   (refine op_v (p_slice_slice_from1 underlying36 sizeOf5 Y Y ?_ ?_) ?_; (focus (omega)); (focus (omega)))
   refine Zm Y ?_
   (refine op_v (p_slice_slice_to underlying36 sizeOf5 Y Y ?_) ?_; (focus (omega)))
   refine Zo (by repeat (first | exact Has.here _ | apply Has.there)) (p_conv_bytes_str underlying36 underlying5 underlying9 Y (by exact ⟨by rw [Nat.zero_add, List.map_take, List.map_drop], by rw [List.length_take, List.length_drop]; omega⟩)) ?_
   refine Za Y <| Za Y <| Z0 <| Zn [6, 7] ?_
   refine Zx <| at_ret ?_
   refine nx_end2 rfl results16 Y Y (by exact ⟨rfl, rfl⟩)

theorem read_off (left dp bd bv n : Nat) (pv : Value) (Td : TypeId) (o m : Int) : DoesR Tryz.prog 16 #[.pointer (some ⟨dp, 0, none⟩), .int .i64 o, .int .i64 m] [[(dp, .cells (dkc true left bd bv n pv) Td (0, 0))]] (.tuple #[.string (str []), .int .i64 221]) := by
 refine spec_enter func16 rfl ntmps16 rfl ?_
 intro u R
 refine Zb [0, 1, 2] ?_
 refine Zq <| Zg <| Za Y <| Za Y <| Z0 <| Zx <| Zq <| Zq <| Zg <| Zm Y <| Zr [_] Y call61 Y rfl (check_off _ _ _ _ _ _ _) ?_
 rintro _ _ ⟨rfl, rfl⟩
 refine Za Y <| Z0 <| Zx <| Zq <| Zg <| Zm Y ?_
 first | refine op_v (p_neq_nat (n := 0) Y Y) ?_ | refine op_v (p_neq Y Y) ?_
 refine Z0 <| Zx ?_
 first | refine at_if Y (fun hc1 => ?_) (fun hc1 => ?_) | refine at_if_bool Y (fun hc1 => ?_) (fun hc1 => ?_)
 ·
  refine Zq <| Zg <| Zm Y <| Za Y <| Za Y <| Z0 <| Zx <| at_ret <| Zt ?_
  refine nx_end2 rfl results16 Y Y (by exact ⟨rfl, rfl⟩)
 ·
  exact absurd (by decide) hc1

/-- The state of a disk. -/
structure DiskS where
  off : Bool
  left : Nat
  du : List UInt8
  vi : List UInt8
  pend : List (Nat × List UInt8)
def pendC (l : List (Nat × List UInt8)) : List Value := l.flatMap fun p => [.int .i64 (p.1 : Int), .string (str p.2)]
def DiskS.ok (d : DiskS) : Prop := d.du.length = d.vi.length ∧ 1 ≤ d.vi.length ∧ d.vi.length ≤ 4194304 ∧ d.left ≤ 4194304
/-- The memory s is a disk in the state d. -/
def DiskR (d : DiskS) (dp : Nat) (s : List Chunk) : Prop := d.ok ∧ ∃ bd bv pv sp, RowS 2 139 pv d.pend.length (pendC d.pend) sp ∧
  s = (dp, .cells (dkc d.off d.left bd bv d.vi.length pv) 103 (0, 0)) :: (bd, .cells (byc d.du) 5 (0, 0)) :: (bv, .cells (byc d.vi) 5 (0, 0)) :: sp
def DiskS.write (d : DiskS) (o : Nat) (s : List UInt8) : Int × DiskS := if d.off then (221, d) else (0, ⟨usedOff false d.left, usedLeft d.left, d.du, splice d.vi o s, d.pend ++ [(o, s)]⟩)
def DiskS.sync (d : DiskS) : Int × DiskS := if d.off then (221, d) else (0, { d with du := d.vi, pend := [] })
def DiskS.cut (d : DiskS) (m : Nat) : Int × DiskS := if d.off then (221, d) else (0, { d with off := decide (m = 0), left := m })
def DiskS.new (n : Nat) : DiskS := ⟨false, 0, List.replicate n 0, List.replicate n 0, []⟩
theorem does_flat {P : Program} {f : FuncId} {args : Array Value} {H H' : Hp} {Q : Value → Hp → Prop} (e : H.flatten = H'.flatten) (h : Does P f args H Q) : Does P f args H' Q := fun u R w hs =>
  h u R w (hs.sub ⟨[], by simp [e]⟩)
theorem does_mono {P : Program} {f : FuncId} {args : Array Value} {H : Hp} {Q Q' : Value → Hp → Prop} (h : Does P f args H Q) (hq : ∀ v H1, Q v H1 → ∃ H2, Q' v H2 ∧ H1.flatten = H2.flatten) : Does P f args H Q' := fun u R w hs =>
  Calls.mono (h u R w hs) fun e w' he => by
    rcases he with ⟨v, H1, h1, h2, h3⟩ | ⟨_, _, _, h, _⟩
    · obtain ⟨H2, h4, h5⟩ := hq v H1 h2
      exact .inl ⟨v, H2, h1, h4, h3.sub ⟨[], by simp [h5]⟩⟩
    · exact h.elim
/-- The rest of the memory is framed off. -/
theorem does_frame {P : Program} {f : FuncId} {args : Array Value} {H H1 : Hp} {Q : Value → Hp → Prop} (h : Does P f args H1 Q) (R1 : Hp) (e : H.flatten = (H1 ++ R1).flatten) : Does P f args H (fun v H' => ∃ H2, Q v H2 ∧ H' = H2 ++ R1) := fun u R w hs =>
  Calls.mono (h u (R1 ++ R) w (hs.sub ⟨[], by simp only [List.flatten_append, List.append_nil] at e ⊢; rw [e]; simp⟩)) fun ed w' he => by
    rcases he with ⟨v, H2, h1, h2, h3⟩ | ⟨_, _, _, h, _⟩
    · exact .inl ⟨v, H2 ++ R1, h1, ⟨H2, h2, rfl⟩, h3.sub ⟨[], by simp⟩⟩
    · exact h.elim
theorem does_perm {P : Program} {f : FuncId} {args : Array Value} {H H' : Hp} {Q Q' : Value → Hp → Prop} (h : Does P f args H Q) (e : H'.flatten.Perm H.flatten) (hq : ∀ v H1, Q v H1 → ∃ H2, Q' v H2 ∧ H1.flatten.Perm H2.flatten) : Does P f args H' Q' := fun u R w hs =>
  Calls.mono (h u R w (hs.perm (by simp only [List.flatten_append]; exact e.append_right _))) fun ed w' he => by
    rcases he with ⟨v, H1, h1, h2, h3⟩ | ⟨_, _, _, h, _⟩
    · obtain ⟨H2, h4, h5⟩ := hq v H1 h2
      exact .inl ⟨v, H2, h1, h4, h3.perm (by simp only [List.flatten_append]; exact h5.append_right _)⟩
    · exact h.elim
theorem disk_write (d : DiskS) (dp : Nat) (s : List Chunk) (hR : DiskR d dp s) (o : Nat) (b : List UInt8) (h : o + b.length ≤ d.vi.length) (ho : o < d.vi.length) (hk : d.pend.length ≤ 1000000) :
    Does Tryz.prog 21 #[.pointer (some ⟨dp, 0, none⟩), .int .i64 (o : Int), .string (str b)] [s] (fun r H' => ∃ s', H' = [s'] ∧ r = .int .i64 (d.write o b).1 ∧ DiskR (d.write o b).2 dp s') := by
  obtain ⟨⟨hl, h1, h4, hlf⟩, bd, bv, pv, sp, hr, rfl⟩ := hR
  obtain ⟨off, left, du, vi, pend⟩ := d
  simp only at *
  cases off with
  | true =>
    refine does_mono (does_frame (write_off left dp bd bv vi.length o (str b) pv 103) [(bd, .cells (byc du) 5 (0, 0)) :: (bv, .cells (byc vi) 5 (0, 0)) :: sp] (by simp)) ?_
    rintro v _ ⟨H2, ⟨rfl, rfl⟩, rfl⟩
    exact ⟨[_], ⟨_, rfl, rfl, ⟨hl, h1, h4, hlf⟩, bd, bv, pv, sp, hr, rfl⟩, by simp [DiskS.write]⟩
  | false =>
    refine does_mono (does_flat ?_ (write_spec left dp bd bv vi.length pend.length pv (pendC pend) sp du vi hl rfl h4 hr o b h ho hlf hk)) ?_
    · simp
    · rintro v _ ⟨rfl, pv', sp', hr', rfl⟩
      refine ⟨[_], ⟨_, rfl, rfl, ⟨?_, ?_, ?_, ?_⟩, bd, bv, pv', sp', ?_, rfl⟩, ?_⟩
      · simp only [DiskS.write, Bool.false_eq_true, if_false]; rw [splice_len _ _ _ h]; exact hl
      · simp only [DiskS.write, Bool.false_eq_true, if_false]; rw [splice_len _ _ _ h]; exact h1
      · simp only [DiskS.write, Bool.false_eq_true, if_false]; rw [splice_len _ _ _ h]; exact h4
      · simp only [DiskS.write, Bool.false_eq_true, if_false]; unfold usedLeft; omega
      · simp only [DiskS.write, Bool.false_eq_true, if_false, List.length_append, List.length_cons, List.length_nil]
        have : pendC (pend ++ [(o, b)]) = pendC pend ++ [.int .i64 (o : Int), .string (str b)] := by simp [pendC]
        rw [this]; exact hr'
      · simp [DiskS.write, splice_len _ _ _ h]
theorem disk_sync (d : DiskS) (dp : Nat) (s : List Chunk) (hR : DiskR d dp s) :
    Does Tryz.prog 48 #[.pointer (some ⟨dp, 0, none⟩)] [s] (fun r H' => ∃ s', H' = [s'] ∧ r = .int .i64 d.sync.1 ∧ DiskR d.sync.2 dp s') := by
  obtain ⟨⟨hl, h1, h4, hlf⟩, bd, bv, pv, sp, hr, rfl⟩ := hR
  obtain ⟨off, left, du, vi, pend⟩ := d
  simp only at *
  cases off with
  | true =>
    refine does_mono (does_frame (sync_off left dp bd bv vi.length pv 103) [(bd, .cells (byc du) 5 (0, 0)) :: (bv, .cells (byc vi) 5 (0, 0)) :: sp] (by simp)) ?_
    rintro v _ ⟨H2, ⟨rfl, rfl⟩, rfl⟩
    exact ⟨[_], ⟨_, rfl, rfl, ⟨hl, h1, h4, hlf⟩, bd, bv, pv, sp, hr, rfl⟩, by simp [DiskS.sync]⟩
  | false =>
    refine does_mono (does_flat ?_ (sync_spec left dp bd bv vi.length pend.length pv (pendC pend) sp du vi hl rfl h4 hr)) ?_
    · simp
    · rintro v _ ⟨rfl, b, c, sp', hr', rfl⟩
      exact ⟨[_], ⟨_, rfl, rfl, ⟨rfl, h1, h4, hlf⟩, bd, bv, .slice b 0 c, sp', hr', rfl⟩, by simp [DiskS.sync]⟩
theorem disk_size (d : DiskS) (dp : Nat) (s : List Chunk) (hR : DiskR d dp s) : DoesR Tryz.prog 43 #[.pointer (some ⟨dp, 0, none⟩)] [s] (.int .i64 (d.vi.length : Int)) := by
  obtain ⟨hok, bd, bv, pv, sp, hr, rfl⟩ := hR
  refine does_mono (does_frame (size_spec d.off dp d.left bd bv d.vi.length pv 103) [(bd, .cells (byc d.du) 5 (0, 0)) :: (bv, .cells (byc d.vi) 5 (0, 0)) :: sp] (by simp)) ?_
  rintro v _ ⟨H2, ⟨rfl, rfl⟩, rfl⟩
  exact ⟨_, ⟨rfl, rfl⟩, by simp⟩
theorem disk_read (d : DiskS) (dp : Nat) (s : List Chunk) (hR : DiskR d dp s) (o m : Nat) (h : o + m ≤ d.vi.length) (ho : o < d.vi.length) :
    DoesR Tryz.prog 16 #[.pointer (some ⟨dp, 0, none⟩), .int .i64 (o : Int), .int .i64 (m : Int)] [s] (if d.off then .tuple #[.string (str []), .int .i64 221] else .tuple #[.string (str ((d.vi.drop o).take m)), .int .i64 0]) := by
  obtain ⟨⟨hl, h1, h4, hlf⟩, bd, bv, pv, sp, hr, rfl⟩ := hR
  obtain ⟨off, left, du, vi, pend⟩ := d
  simp only at *
  cases off with
  | true =>
    refine does_mono (does_frame (read_off left dp bd bv vi.length pv 103 o m) [(bd, .cells (byc du) 5 (0, 0)) :: (bv, .cells (byc vi) 5 (0, 0)) :: sp] (by simp)) ?_
    rintro v _ ⟨H2, ⟨rfl, rfl⟩, rfl⟩
    exact ⟨_, ⟨rfl, rfl⟩, by simp⟩
  | false =>
    have hp : ∀ (x y z : Chunk) (t : List Chunk), (x :: y :: z :: t).Perm (x :: z :: y :: t) := fun x y z t => (List.Perm.swap z y t).cons x
    refine does_perm (does_frame (H := [(dp, .cells (dkc false left bd bv vi.length pv) 103 (0, 0)) :: (bv, .cells (byc vi) 5 (0, 0)) :: (bd, .cells (byc du) 5 (0, 0)) :: sp]) (read_spec left dp bd bv vi.length pv vi 103 5 rfl h4 o m h ho) [[(bd, .cells (byc du) 5 (0, 0))], sp] (by simp)) ?_ ?_
    · simp only [List.flatten_cons, List.flatten_nil, List.append_nil]; exact hp _ _ _ _
    · rintro v _ ⟨H2, ⟨rfl, rfl⟩, rfl⟩
      refine ⟨_, ⟨rfl, rfl⟩, ?_⟩
      simp only [List.flatten_cons, List.flatten_nil, List.append_nil, List.cons_append, List.nil_append]; exact hp _ _ _ _

end Go.Proofs.YthbadolcncojbaaGreatDoor
