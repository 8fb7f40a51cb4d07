/- Contracts: strings.Builder. -/
import Derived.Test.YthbadolcncojbaaGreatDoorEz
import Derived.Test.YthbadolcncojbaaGreatDoorJn3
import Derived.Test.YthbadolcncojbaaGreatDoorEx9

namespace Go.Proofs.YthbadolcncojbaaGreatDoor
open Go.Proofs.Tryz
open Go Go.RowKit Gw
set_option linter.unusedVariables false
set_option linter.unusedSimpArgs false
set_option maxRecDepth 100000
attribute [local irreducible] Gw.At Gw.Nx Gw.Ops
theorem copyCheck_fresh (b : Nat) (v : Value) : Does Tryz.prog 109 #[.pointer (some ⟨b, 0, none⟩)] [[(b, .cells #[.pointer none, v] 123 (0, 0))]] (fun r H' => r = .tuple #[] ∧ H' = [[(b, .cells #[.pointer (some ⟨b, 0, none⟩), v] 123 (0, 0))]]) := by
 refine spec_enter func109 rfl ntmps109 rfl ?_
 intro u R
 refine Zb [0] ?_
 refine Zq <| Zg <| Zm Y <| Zp Y rfl <| Zh 0 underlying123 rfl rfl sizeOf121 Y <| Zl isAgg121 Y ?_
 first | refine op_v (p_eql_nil_nil underlying121 Y Y) ?_ | refine op_v (p_eql_ptr_nil underlying121 Y Y) ?_
 refine Z0 <| Zx ?_
 refine at_if_bool Y (fun hc1 => ?_) (fun hc1 => ?_)
 ·
  refine Zg <| Zm Y <| Zm Y ?_
  refine Zo (by repeat (first | exact Has.here _ | apply Has.there)) (p_to_unsafe (c := #[.pointer none, v]) underlying121 underlying231 (rfl : Tryz.prog.info? 123 = some Tryz.t123) (by decide) (Nat.zero_lt_succ 1) Y) ?_
  refine op_w (p_extern (vs := [_]) (e := Extern.AbiNoEscape.same) func152 (by kernel_rfl) (by kernel_rfl) (by kernel_rfl) (by kernel_rfl) Y Y) rfl rfl ?_
  refine Zo (by repeat (first | exact Has.here _ | apply Has.there)) (p_from_unsafe underlying231 underlying121 (rfl : Tryz.prog.info? 123 = some Tryz.t123) (show liesAt _ _ _ (2 / _) 0 _ 1 = true from by kernel_rfl) Y) ?_
  refine Zp Y rfl <| Zh 0 underlying123 rfl rfl sizeOf121 Y <| Ze (Zs sizeOf121 Y Y rfl) ?_
  rintro _ _ ⟨rfl, rfl⟩
  refine Z0 ?_
  refine nx_end0 rfl results109 (by exact ⟨rfl, rfl⟩)
 ·
  cases hc1

theorem copyCheck_used (b : Nat) (v : Value) : Does Tryz.prog 109 #[.pointer (some ⟨b, 0, none⟩)] [[(b, .cells #[.pointer (some ⟨b, 0, none⟩), v] 123 (0, 0))]] (fun r H' => r = .tuple #[] ∧ H' = [[(b, .cells #[.pointer (some ⟨b, 0, none⟩), v] 123 (0, 0))]]) := by
 refine spec_enter func109 rfl ntmps109 rfl ?_
 intro u R
 refine Zb [0] ?_
 refine Zq <| Zg <| Zm Y <| Zp Y rfl <| Zh 0 underlying123 rfl rfl sizeOf121 Y <| Zl isAgg121 Y ?_
 first | refine op_v (p_eql_nil_nil underlying121 Y Y) ?_ | refine op_v (p_eql_ptr_nil underlying121 Y Y) ?_
 refine Z0 <| Zx ?_
 refine at_if_bool Y (fun hc1 => ?_) (fun hc1 => ?_)
 ·
  cases hc1
 ·
  refine Zq <| Zg <| Zm Y <| Zp Y rfl <| Zh 0 underlying123 rfl rfl sizeOf121 Y <| Zl isAgg121 Y ?_
  refine Zm Y ?_
  refine op_w (p_neq_ptr_same underlying121 (rfl : Tryz.prog.info? 123 = some Tryz.t123) Y Y) rfl rfl ?_
  refine Z0 <| Zx <| at_else Y <| at_skip ?_
  refine nx_end0 rfl results109 (by exact ⟨rfl, rfl⟩)

theorem writeString_fresh (b : Nat) (v : Value) (l x : List UInt8) (sb : List Chunk) (hrow : Row 5 v (l.map u8v) sb) (h0 : 0 < x.length) (hb : l.length + x.length ≤ 1099511627776) : Does Tryz.prog 56 #[.pointer (some ⟨b, 0, none⟩), .string (str x)] [[(b, .cells #[.pointer none, v] 123 (0, 0))], sb] (fun r H' => ∃ v' sb' rv, Row 5 v' ((l ++ x).map u8v) sb' ∧ r = rv ∧ H' = [[(b, .cells #[.pointer (some ⟨b, 0, none⟩), v'] 123 (0, 0))], sb']) := by
 have hml : maxLen = 9223372036854775807 := rfl
 obtain ⟨gv, cv, rfl⟩ := hrow.form
 refine spec_enter func56 rfl ntmps56 rfl ?_
 intro u R
 refine Zb [0, 1] ?_
 refine Zq <| Zg <| Za Y <| Za Y <| Z0 <| Zx <| Zq <| Zg <| Zm Y <| Zc [_] Y call109 Y rfl (copyCheck_fresh b _) ?_
 rintro _ _ ⟨_, ⟨rfl, rfl⟩, rfl⟩
 refine Z0 <| Zx <| Zq <| Zg <| Zm Y <| Zm Y <| Zp Y rfl <| Zh 1 underlying123 rfl rfl sizeOf36 Y <| Zl isAgg36 Y ?_
 refine Zm Y ?_
 refine Ze (w_append_str (by_ := 1) underlying36 underlying9 (rfl : Tryz.prog.info? 5 = some Tryz.t5) rfl rfl rfl rfl Y hrow Y (by repeat (first | exact One.here _ _ | apply One.there)) (by omega) (by (rw [List.length_map]; omega)) (by (rw [List.length_map]; omega))) ?_
 rintro _ _ ⟨sq, hrq, rfl⟩
 obtain ⟨gq, cq, rfl⟩ := hrq.form
 refine Zp Y rfl <| Zh 1 underlying123 rfl rfl sizeOf36 Y <| Ze (Zs sizeOf36 Y Y rfl) ?_
 rintro _ _ ⟨rfl, rfl⟩
 refine Z0 <| Zn [1] ?_
 refine Zx <| Zq <| Zg <| Zm Y <| Zv (p_len_str underlying9 Y) <| Za Y <| Za Y <| Z0 <| Zx <| at_ret ?_
 refine nx_end2 rfl results56 Y Y (by exact ⟨_, sq, _, (by rw [List.map_append]; exact hrq), rfl, rfl⟩)

theorem writeString_used (b : Nat) (v : Value) (l x : List UInt8) (sb : List Chunk) (hrow : Row 5 v (l.map u8v) sb) (h0 : 0 < x.length) (hb : l.length + x.length ≤ 1099511627776) : Does Tryz.prog 56 #[.pointer (some ⟨b, 0, none⟩), .string (str x)] [[(b, .cells #[.pointer (some ⟨b, 0, none⟩), v] 123 (0, 0))], sb] (fun r H' => ∃ v' sb' rv, Row 5 v' ((l ++ x).map u8v) sb' ∧ r = rv ∧ H' = [[(b, .cells #[.pointer (some ⟨b, 0, none⟩), v'] 123 (0, 0))], sb']) := by
 have hml : maxLen = 9223372036854775807 := rfl
 obtain ⟨gv, cv, rfl⟩ := hrow.form
 refine spec_enter func56 rfl ntmps56 rfl ?_
 intro u R
 refine Zb [0, 1] ?_
 refine Zq <| Zg <| Za Y <| Za Y <| Z0 <| Zx <| Zq <| Zg <| Zm Y <| Zc [_] Y call109 Y rfl (copyCheck_used b _) ?_
 rintro _ _ ⟨_, ⟨rfl, rfl⟩, rfl⟩
 refine Z0 <| Zx <| Zq <| Zg <| Zm Y <| Zm Y <| Zp Y rfl <| Zh 1 underlying123 rfl rfl sizeOf36 Y <| Zl isAgg36 Y ?_
 refine Zm Y ?_
 refine Ze (w_append_str (by_ := 1) underlying36 underlying9 (rfl : Tryz.prog.info? 5 = some Tryz.t5) rfl rfl rfl rfl Y hrow Y (by repeat (first | exact One.here _ _ | apply One.there)) (by omega) (by (rw [List.length_map]; omega)) (by (rw [List.length_map]; omega))) ?_
 rintro _ _ ⟨sq, hrq, rfl⟩
 obtain ⟨gq, cq, rfl⟩ := hrq.form
 refine Zp Y rfl <| Zh 1 underlying123 rfl rfl sizeOf36 Y <| Ze (Zs sizeOf36 Y Y rfl) ?_
 rintro _ _ ⟨rfl, rfl⟩
 refine Z0 <| Zn [1] ?_
 refine Zx <| Zq <| Zg <| Zm Y <| Zv (p_len_str underlying9 Y) <| Za Y <| Za Y <| Z0 <| Zx <| at_ret ?_
 refine nx_end2 rfl results56 Y Y (by exact ⟨_, sq, _, (by rw [List.map_append]; exact hrq), rfl, rfl⟩)

theorem builderString_some (b g cap : Nat) (p : Value) (l : List UInt8) (cur : Array Value) (z : Nat × Nat) (h0 : 0 < l.length) (hc : cap ≠ 0) (hl : l.length ≤ 9223372036854775807) (htk : cur.toList.take l.length = l.map u8v) : Does Tryz.prog 58 #[.pointer (some ⟨b, 0, none⟩)] [[(b, .cells #[p, .slice (some ⟨g, 0, none⟩) l.length cap] 123 (0, 0))], [(g, .cells cur 5 z)]] (fun r H' => r = .string (str l) ∧ H' = [[(b, .cells #[p, .slice (some ⟨g, 0, none⟩) l.length cap] 123 (0, 0))]]) := by
 refine spec_enter func58 rfl ntmps58 rfl ?_
 intro u R
 refine Zb [0] ?_
 refine Zq <| Zg <| Za Y <| Z0 <| Zx <| Zq <| at_draw (n := 12) (0 :: 1 :: 3 :: 7 :: 15 :: 0 :: 32 :: 96 :: 224 :: 480 :: 1023 :: 2047 :: []) 1040 (by kernel_rfl) (by kernel_rfl) rfl ?_
 refine Zi 1 0 rfl (p_move Y) <| Zi 3 1 rfl (p_nilChk Y rfl) <| Zi 7 2 rfl (p_fieldAddr0 (off := 1) underlying123 rfl rfl sizeOf36 Y) <| Zj 15 3 rfl isAgg36 Y ?_
 refine Zi 47 5 rfl (p_move Y) <| Zi 111 6 rfl (p_nilChk Y rfl) <| Zi 239 7 rfl (p_fieldAddr0 (off := 1) underlying123 rfl rfl sizeOf36 Y) <| Zj 495 8 rfl isAgg36 Y ?_
 refine Zi 1007 9 rfl (p_len_slice underlying36 Y) <| Zz (l := [4]) ?_
 refine Zy 15 1023 [8, 3] [true, false] [(8, (_, _))] rfl Y rfl rfl rfl rfl (w_sliceData Y hc) ?hk_1 (fun _ _ h => h.elim) ?hl_1
 case hk_1 =>
  rintro _ _ ⟨rfl, rfl⟩
  refine ⟨Zk (keep_nil), ?_⟩
  refine Zz (l := [10]) ?_
  refine Zy 1023 2047 [8] [false] [] rfl Y rfl rfl rfl rfl (w_unsafeString (l := l) underlying193 (by kernel_rfl) Y Y (List.ne_nil_of_length_pos h0) hl (by repeat (first | exact One.here _ _ | apply One.there)) htk) ?hk_2 (fun _ _ h => h.elim) ?hl_2
  case hk_2 =>
   rintro _ _ ⟨rfl, rfl⟩
   refine ⟨keep_nil, ?_⟩
   refine Zi 4095 11 rfl (p_assign Y) <| lin_nil ?_
   refine Zn [2] ?_
   refine Zx <| at_ret ?_
   refine nx_end1 rfl results58 Y (by exact ⟨rfl, rfl⟩)
  case hl_2 =>
   exact each_nil
 case hl_1 =>
  exact each_nil

theorem builderString_none (b : Nat) (p : Value) : Does Tryz.prog 58 #[.pointer (some ⟨b, 0, none⟩)] [[(b, .cells #[p, .slice none 0 0] 123 (0, 0))]] (fun r H' => r = .string (str []) ∧ H' = [[(b, .cells #[p, .slice none 0 0] 123 (0, 0))]]) := by
 refine spec_enter func58 rfl ntmps58 rfl ?_
 intro u R
 refine Zb [0] ?_
 refine Zq <| Zg <| Za Y <| Z0 <| Zx <| Zq <| at_draw (n := 12) (0 :: 1 :: 3 :: 7 :: 15 :: 0 :: 32 :: 96 :: 224 :: 480 :: 1023 :: 2047 :: []) 1040 (by kernel_rfl) (by kernel_rfl) rfl ?_
 refine Zi 1 0 rfl (p_move Y) <| Zi 3 1 rfl (p_nilChk Y rfl) <| Zi 7 2 rfl (p_fieldAddr0 (off := 1) underlying123 rfl rfl sizeOf36 Y) <| Zj 15 3 rfl isAgg36 Y ?_
 refine Zi 47 5 rfl (p_move Y) <| Zi 111 6 rfl (p_nilChk Y rfl) <| Zi 239 7 rfl (p_fieldAddr0 (off := 1) underlying123 rfl rfl sizeOf36 Y) <| Zj 495 8 rfl isAgg36 Y ?_
 refine Zi 1007 9 rfl (p_len_slice underlying36 Y) <| Zz (l := [4]) ?_
 refine Zy 15 1023 [8, 3] [true, false] [(8, (_, _))] rfl Y rfl rfl rfl rfl (w_sliceData_nil Y) ?hk_1 (fun _ _ h => h.elim) ?hl_1
 case hk_1 =>
  rintro _ _ ⟨rfl, rfl⟩
  refine ⟨Zk (keep_nil), ?_⟩
  refine Zz (l := [10]) ?_
  refine Zy 1023 2047 [8] [false] [] rfl Y rfl rfl rfl rfl (w_unsafeString_none Y Y) ?hk_2 (fun _ _ h => h.elim) ?hl_2
  case hk_2 =>
   rintro _ _ ⟨rfl, rfl⟩
   refine ⟨keep_nil, ?_⟩
   refine Zi 4095 11 rfl (p_assign Y) <| lin_nil ?_
   refine Zn [2] ?_
   refine Zx <| at_ret ?_
   refine nx_end1 rfl results58 Y (by exact ⟨rfl, rfl⟩)
  case hl_2 =>
   exact each_nil
 case hl_1 =>
  exact each_nil

end Go.Proofs.YthbadolcncojbaaGreatDoor
