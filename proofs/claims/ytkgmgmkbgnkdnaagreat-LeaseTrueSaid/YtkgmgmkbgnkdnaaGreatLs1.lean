/- The lease table, in chunks. -/
import Derived.Test.YtkgmgmkbgnkdnaaGreatEz
import Derived.Test.YtkgmgmkbgnkdnaaGreatEx26
import Derived.Test.YtkgmgmkbgnkdnaaGreatEx25
import Derived.Test.YtkgmgmkbgnkdnaaGreatProg

namespace Go.Proofs.YtkgmgmkbgnkdnaaGreat
open Go.Proofs.Tryz
open Go Go.RowKit Gw
set_option linter.unusedVariables false
set_option linter.unusedSimpArgs false
set_option maxRecDepth 100000
attribute [local irreducible] Gw.At Gw.Nx Gw.Ops
section
variable {tp mb : Nat} {es : Array MapEntry} {ck : Nat} {lm : List (ByteArray × Value)}

theorem lnew_spec : Does Tryz.prog 7 #[] [] (fun r H' => ∃ tp mb, r = .pointer (some ⟨tp, 0, none⟩) ∧ H' = [[(tp, .cells #[.map (some mb), .int .i64 0] 70 (0, 0))], [(mb, .map #[] 0)]]) := by
 refine spec_enter func7 rfl ntmps7 rfl ?_
 intro u R
 refine Zb [] ?_
 refine Zq <| Zg <| Za Y <| Z0 <| Zx <| Zq <| Zg <| Ze (w_makeMap) ?_
 rintro _ _ ⟨mb, rfl, rfl⟩
 refine Zv (p_build (vs := [(0, _)]) (cs := #[_, _]) Y (run_build_struct (pl := #[(0, 1), (1, 1)]) zeroValue70 underlying70 (fun _ => by kernel_rfl) rfl)) ?_
 refine Ze (w_box Y (cs := #[_, _]) rfl) ?_
 rintro _ _ ⟨tp, rfl, rfl⟩
 refine Za Y <| Z0 <| Zx <| at_ret ?_
 refine nx_end1 rfl results7 Y (by exact ⟨tp, mb, rfl, rfl⟩)

theorem ltime_spec (now : Int) : DoesR Tryz.prog 22 #[.int .i64 now] [] (.bool (decide (0 ≤ now ∧ now ≤ 4611686018427387903))) := by
 refine spec_enter func22 rfl ntmps22 rfl ?_
 intro u R
 refine Zb [0] ?_
 refine Zq <| Zg <| Za Y <| Z0 <| Zx <| Zq <| Zg <| Zm Y ?_
 first | refine op_v (p_geq_nat (n := 0) Y Y) ?_ | refine op_v (p_geq Y Y) ?_
 refine Zm Y ?_
 first | refine ops_split (t := 5) Y rfl (fun h1 => ?_) (fun h1 => ?_) | refine ops_split_bool (t := 5) Y rfl (fun h1 => ?_) (fun h1 => ?_)
 ·
  refine Zf Y Y <| Yg (p_leq Y Y) <| Zv (p_pick_t Y Y) <| Za Y <| Z0 <| Zx <| at_ret ?_
  refine nx_end1 rfl results22 Y (by exact ⟨congrArg Value.bool (by simp [h1]), rfl⟩)
 ·
  refine op_skip Y rfl <| op_skip Y rfl <| Zv (p_pick_f Y Y) <| Za Y <| Z0 <| Zx <| at_ret ?_
  refine nx_end1 rfl results22 Y (by exact ⟨congrArg Value.bool (by simp [h1]), rfl⟩)

theorem lof_spec (K : ByteArray) (n : Int) (hm : MapM (fun k : ByteArray => Value.string k) es ck lm) : DoesR Tryz.prog 21 #[.pointer (some ⟨tp, 0, none⟩), .string K] [[(tp, .cells #[.map (some mb), .int .i64 n] 70 (0, 0))], [(mb, .map es ck)]] ((mget K lm).getD (.pointer none)) := by
 refine spec_enter func21 rfl ntmps21 rfl ?_
 intro u R
 refine Zb [0, 1] ?_
 refine Zq <| Zg <| Za Y <| Z0 <| Zx <| Zq <| Zq <| Zg <| Zm Y ?_
 first | refine op_v (p_eql_nil_nil underlying30 Y Y) ?_ | refine op_v (p_eql_ptr_nil underlying30 Y Y) ?_
 refine Z0 <| Zx ?_
 refine at_if_bool Y (fun hb9 => ?_) (fun hb9 => ?_)
 ·
  cases hb9
 ·
  refine at_skip <| Zx <| Zq <| Zg <| Zm Y <| Zp Y rfl <| Zh 0 underlying70 rfl rfl sizeOf68 Y <| Zl isAgg68 Y ?_
  refine Zm Y <| Zo (by repeat (first | exact Has.here _ | apply Has.there)) (p_lookup1 (strKeyOk underlying9 (D := fun _ => True)) underlying68 zeroValue71 hm (fun _ _ => trivial) (trivial) (rfl) Y Y) ?_
  refine Za Y <| Z0 <| Zx <| at_ret ?_
  refine nx_end1 rfl results21 Y (by exact ⟨rfl, rfl⟩)

theorem lask_spec (K : ByteArray) (n now : Int) (hm : MapM (fun k : ByteArray => Value.string k) es ck lm) (hg : mget K lm = none) (hn : 0 ≤ n ∧ n ≤ 1000000) (ht : 0 ≤ now ∧ now ≤ 4611686018427387903) : Does Tryz.prog 8 #[.pointer (some ⟨tp, 0, none⟩), .string K, .int .i64 now] [[(tp, .cells #[.map (some mb), .int .i64 n] 70 (0, 0))], [(mb, .map es ck)]] (fun r H' => ∃ lp es' ck' lm', r = .tuple #[.int .i64 (n + 1), .bool true] ∧ MapM (fun k : ByteArray => Value.string k) es' ck' lm' ∧ (∀ p, p ∈ lm' ↔ p = (K, .pointer (some ⟨lp, 0, none⟩)) ∨ (p ∈ lm ∧ p.1 ≠ K)) ∧ H' = [[(tp, .cells #[.map (some mb), .int .i64 (n + 1)] 70 (0, 0))], [(mb, .map es' ck')], [(lp, .cells #[.int .i64 (n + 1), .int .i64 now, .int .i64 0] 75 (0, 0))]]) := by
 refine spec_enter func8 rfl ntmps8 rfl ?_
 intro u R
 refine Zb [0, 1, 2] ?_
 refine Zq <| Zg <| Za Y <| Za Y <| Z0 <| Zx <| Zq <| Zq <| Zg <| Zm Y <| Zm Y <| Zr [_, _] Y call21 Y rfl (lof_spec K n hm) ?_
 rintro _ _ ⟨rfl, rfl⟩
 rw [hg, Option.getD_none]
 refine Za Y <| Z0 <| Zx <| Zq <| Zg <| Zm Y ?_
 first | refine op_v (p_eql_nil_nil underlying30 Y Y) ?_ | refine op_v (p_eql_ptr_nil underlying30 Y Y) ?_
 refine Zm Y ?_
 refine ops_split_bool (t := 14) Y rfl (fun hb9 => ?_) (fun hb9 => ?_)
 ·
  cases hb9
 ·
  refine Zf Y Y <| Zr [_] Y call22 Y rfl (ltime_spec now) ?_
  rintro _ _ ⟨rfl, rfl⟩
  rw [decide_eq_true ht]
  first | refine op_wg Y (p_not_dec Y) rfl rfl ?_ | refine op_wg Y (p_not Y) rfl rfl ?_
  refine Zv (p_pick_f Y Y) <| Zm Y ?_
  refine ops_split_bool (t := 19) Y rfl (fun hb9 => ?_) (fun hb9 => ?_)
  ·
   cases hb9
  ·
   refine Zf Y Y ?_
   first | refine op_wg Y (p_neq_nil_nil underlying71 Y Y) rfl rfl ?_ | refine op_wg Y (p_neq_ptr_nil underlying71 Y Y) rfl rfl ?_
   refine Zf Y Y ?_
   refine ops_split_bool (t := 22) Y rfl (fun hb9 => ?_) (fun hb9 => ?_)
   ·
    cases hb9
   ·
    refine op_skip Y rfl <| op_skip Y rfl <| op_skip Y rfl <| op_skip Y rfl <| Yg (p_pick_f Y Y) <| Zv (p_pick_f Y Y) <| Z0 <| Zn [0, 1, 2, 28] ?_
    refine Zx <| at_else Y <| at_skip <| Zx <| Zq <| Zg <| Zm Y <| Zp Y rfl <| Zh 1 underlying70 rfl rfl sizeOf3 Y <| Zl isAgg3 Y ?_
    first | (refine op_v (p_add_nat (n := 1) Y Y ?_) ?_; (focus (omega))) | (refine op_v (p_add Y Y (IntWalk.i64_in _ ?_)) ?_; (focus (omega)))
    refine Zp Y rfl <| Zh 1 underlying70 rfl rfl sizeOf3 Y <| Ze (Zs sizeOf3 Y Y rfl (hi := by first | omega | decide | (simp; done))) ?_
    rintro _ _ ⟨rfl, rfl⟩
    refine Z0 <| Zx <| Zq <| at_draw (n := 13) (0 :: 1 :: 3 :: 7 :: 0 :: 0 :: 32 :: 96 :: 224 :: 0 :: 992 :: 2016 :: 4095 :: []) 6144 (by kernel_rfl) (by kernel_rfl) rfl ?_
    refine Zi 1 0 rfl (p_move Y) <| Zi 3 1 rfl (p_nilChk Y rfl) <| Zi 7 2 rfl (p_fieldAddr0 (off := 0) underlying70 rfl rfl sizeOf68 Y) <| Zj 15 3 rfl isAgg68 Y ?_
    refine Zi 31 4 rfl (p_move Y) <| Zi 63 5 rfl (p_move Y) <| Zi 127 6 rfl (p_nilChk Y rfl) <| Zi 255 7 rfl (p_fieldAddr0 (off := 1) underlying70 rfl rfl sizeOf3 Y) <| Zj 511 8 rfl isAgg3 Y ?_
    refine Zi 1023 9 rfl (p_move Y) <| Zi 2047 10 rfl (p_build (vs := [(0, _), (1, _)]) (cs := #[_, _, _]) Y (run_build_struct (pl := #[(0, 1), (1, 1), (2, 1)]) zeroValue75 underlying75 (fun _ => by kernel_rfl) rfl)) ?_
    refine Zz (l := [11]) ?_
    refine Zy 2016 4095 [8, 3] [false, true] [(3, (_, _))] rfl Y rfl rfl rfl rfl (w_box Y (cs := #[_, _, _]) rfl) ?hk_1 (fun _ _ h => h.elim) ?hl_1
    case hk_1 =>
     rintro _ _ ⟨lp, rfl, rfl⟩
     refine ⟨Zk (keep_nil), ?_⟩
     refine Zz (l := [12]) ?_
     refine Zy 4095 8191 [3] [false] [] rfl Y rfl rfl rfl rfl (w_mapUpdate (strKeyOk underlying9 (D := fun _ => True)) underlying68 hm (fun _ _ => trivial) (trivial) Y Y Y (by repeat (first | exact One.here _ _ | apply One.there))) ?hk_2 (fun _ _ h => h.elim) ?hl_2
     case hk_2 =>
      rintro _ _ ⟨rfl, es2, ck2, lm2, hm2, hp2, rfl⟩
      refine ⟨keep_nil, ?_⟩
      refine lin_nil ?_
      refine Zn [0] ?_
      refine Zx <| Zq <| Zg <| Zm Y <| Zp Y rfl <| Zh 1 underlying70 rfl rfl sizeOf3 Y <| Zl isAgg3 Y ?_
      refine Za Y <| Za Y <| Z0 <| Zx <| at_ret ?_
      refine nx_end2 rfl results8 Y Y (by exact ⟨lp, _, _, _, rfl, hm2, hp2, rfl⟩)
     case hl_2 =>
      exact each_nil
    case hl_1 =>
     exact each_nil

theorem linv_spec (K : ByteArray) (n pos tok beg bar : Int) (lp : Nat) (hm : MapM (fun k : ByteArray => Value.string k) es ck lm) (hg : mget K lm = some (.pointer (some ⟨lp, 0, none⟩))) : Does Tryz.prog 10 #[.pointer (some ⟨tp, 0, none⟩), .string K, .int .i64 pos] [[(tp, .cells #[.map (some mb), .int .i64 n] 70 (0, 0))], [(mb, .map es ck)], [(lp, .cells #[.int .i64 tok, .int .i64 beg, .int .i64 bar] 75 (0, 0))]] (fun r H' => r = undef ∧ H' = [[(tp, .cells #[.map (some mb), .int .i64 n] 70 (0, 0))], [(mb, .map es ck)], [(lp, .cells #[.int .i64 tok, .int .i64 beg, .int .i64 (max bar pos)] 75 (0, 0))]]) := by
 refine spec_enter func10 rfl ntmps10 rfl ?_
 intro u R
 refine Zb [0, 1, 2] ?_
 refine Zq <| Zg <| Zm Y <| Zm Y <| Zr [_, _] Y call21 Y rfl (lof_spec K n hm) ?_
 rintro _ _ ⟨rfl, rfl⟩
 rw [hg, Option.getD_some]
 refine Za Y <| Z0 <| Zx <| Zq <| Zg <| Zm Y ?_
 first | refine op_v (p_neq_nil_nil underlying71 Y Y) ?_ | refine op_v (p_neq_ptr_nil underlying71 Y Y) ?_
 refine Z0 <| Zx ?_
 refine at_if_bool Y (fun hb9 => ?_) (fun hb9 => ?_)
 ·
  refine Zg <| Zm Y <| Zm Y <| Zp Y rfl <| Zh 2 underlying75 rfl rfl sizeOf3 Y <| Zl isAgg3 Y ?_
  refine Zm Y ?_
  first | refine op_v (p_max_pred Y Y) ?_ | refine op_v (p_max_int Y Y) ?_
  refine Zp Y rfl <| Zh 2 underlying75 rfl rfl sizeOf3 Y <| Ze (Zs sizeOf3 Y Y rfl (hi := by first | omega | decide | (simp; done))) ?_
  rintro _ _ ⟨rfl, rfl⟩
  refine Z0 ?_
  refine nx_end0 rfl results10 (by exact ⟨rfl, rfl⟩)
 ·
  cases hb9

theorem lfill_spec (K : ByteArray) (n pos tok beg bar : Int) (lp : Nat) (hm : MapM (fun k : ByteArray => Value.string k) es ck lm) (hg : mget K lm = some (.pointer (some ⟨lp, 0, none⟩))) : Does Tryz.prog 11 #[.pointer (some ⟨tp, 0, none⟩), .string K, .int .i64 tok, .int .i64 pos] [[(tp, .cells #[.map (some mb), .int .i64 n] 70 (0, 0))], [(mb, .map es ck)], [(lp, .cells #[.int .i64 tok, .int .i64 beg, .int .i64 bar] 75 (0, 0))]] (fun r H' => ∃ es' ck', r = .bool (decide (bar ≤ pos)) ∧ H' = [[(tp, .cells #[.map (some mb), .int .i64 n] 70 (0, 0))], [(mb, .map es' ck')], [(lp, .cells #[.int .i64 tok, .int .i64 beg, .int .i64 bar] 75 (0, 0))]]) := by
 refine spec_enter func11 rfl ntmps11 rfl ?_
 intro u R
 refine Zb [0, 1, 2, 3] ?_
 refine Zq <| Zg <| Za Y <| Z0 <| Zx <| Zq <| Zg <| Zm Y <| Zm Y <| Zr [_, _] Y call21 Y rfl (lof_spec K n hm) ?_
 rintro _ _ ⟨rfl, rfl⟩
 rw [hg, Option.getD_some]
 refine Za Y <| Z0 <| Zx <| Zq <| Zq <| Zg <| Zm Y ?_
 first | refine op_v (p_eql_nil_nil underlying71 Y Y) ?_ | refine op_v (p_eql_ptr_nil underlying71 Y Y) ?_
 refine Zm Y ?_
 refine ops_split_bool (t := 15) Y rfl (fun hb8 => ?_) (fun hb8 => ?_)
 ·
  cases hb8
 ·
  refine Zf Y Y <| Yg (p_nilChk Y rfl) <| Yf 0 underlying75 rfl rfl sizeOf3 Y <| Yl isAgg3 Y ?_
  refine Zf Y Y ?_
  first | refine op_wg Y (p_neq_nat Y Y) rfl rfl ?_ | refine op_wg Y (p_neq Y Y) rfl rfl ?_
  refine Zv (p_pick_f Y Y) <| Z0 <| Zn [0, 1, 3, 9, 22] ?_
  refine Zx ?_
  first | refine at_if Y (fun hb9 => ?_) (fun hb9 => ?_) | refine at_if_bool Y (fun hb9 => ?_) (fun hb9 => ?_)
  ·
   first | exact absurd rfl hb9 | cases hb9
  ·
   refine at_skip <| Zx <| Zq <| Zg <| Zm Y <| Zp Y rfl <| Zh 0 underlying70 rfl rfl sizeOf68 Y <| Zl isAgg68 Y ?_
   refine Zm Y <| Ze (w_delete (strKeyOk underlying9 (D := fun _ => True)) underlying68 hm (fun _ _ => trivial) (trivial) Y Y (by repeat (first | exact One.here _ _ | apply One.there))) ?_
   rintro _ _ ⟨rfl, es2, ck2, lm2, hm2, hp2, rfl⟩
   refine Z0 <| Zx <| Zq <| Zg <| Zm Y <| Zm Y <| Zp Y rfl <| Zh 2 underlying75 rfl rfl sizeOf3 Y <| Zl isAgg3 Y ?_
   first | refine op_v (p_geq_nat Y Y) ?_ | refine op_v (p_geq Y Y) ?_
   refine Za Y <| Z0 <| Zn [8] ?_
   refine Zx <| at_ret ?_
   refine nx_end1 rfl results11 Y (by exact ⟨es2, ck2, rfl, rfl⟩)

end

end Go.Proofs.YtkgmgmkbgnkdnaaGreat
