/- Contracts: strings.Builder. -/
import Derived.Test.YthbadolcncojbaaGreatDoorJn3
import Derived.Test.YthbadolcncojbaaGreatDoorEx9

namespace Go.Proofs.YthbadolcncojbaaGreatDoor
open Go Go.RowKit Gw
set_option linter.unusedVariables false
set_option maxRecDepth 100000
attribute [local irreducible] Gw.At Gw.Nx Gw.Ops
theorem copyCheck_fresh (b : Nat) (v : Value) : Does Tryz.prog 109 #[.pointer (some ⟨b, 0, none⟩)] [[(b, .cells #[.pointer none, v] 123 (0, 0))]] (fun r H' => r = .tuple #[] ∧ H' = [[(b, .cells #[.pointer (some ⟨b, 0, none⟩), v] 123 (0, 0))]]) := by
 refine spec_enter Tryz.func109 rfl Tryz.ntmps109 rfl ?_
 intro u R
 refine at_slots (env' := [(0, _)]) [0] rfl (fun _=>rfl) ?_
 refine at_seq ?_
 refine at_region ?_
 refine op_v (p_move (fun _=>rfl)) ?_
 refine op_v (p_nilChk (fun _=>rfl) rfl) ?_
 refine op_v (p_fieldAddr0 (off := 0) Tryz.underlying123 rfl rfl Tryz.sizeOf121 (fun _=>rfl)) ?_
 refine op_r (by repeat (first | exact Has.here _ | apply Has.there)) (p_load Tryz.isAgg121 (fun _=>rfl) (by rfl)) rfl rfl ?_
 first | refine op_v (p_eql_nil_nil Tryz.underlying121 (fun _=>rfl) (fun _=>rfl)) ?_ | refine op_v (p_eql_ptr_nil Tryz.underlying121 (fun _=>rfl) (fun _=>rfl)) ?_
 refine ops_nil ?_
 refine nx_next ?_
 refine at_if_bool (fun _=>rfl) (fun hc1 => ?_) (fun hc1 => ?_)
 ·
  refine at_region ?_
  refine op_v (p_move (fun _=>rfl)) ?_
  refine op_v (p_move (fun _=>rfl)) ?_
  refine op_r (by repeat (first | exact Has.here _ | apply Has.there)) (p_to_unsafe (c := #[.pointer none, v]) Tryz.underlying121 Tryz.underlying231 (rfl : Tryz.prog.info? 123 = some Tryz.t123) (by decide) (Nat.zero_lt_succ 1) (fun _=>rfl)) rfl rfl ?_
  refine op_w (p_extern (vs := [_]) (e := Extern.AbiNoEscape.same) Tryz.func152 (by kernel_rfl) (by kernel_rfl) (by kernel_rfl) (by kernel_rfl) (fun _=>rfl) (fun _=>rfl)) rfl rfl ?_
  refine op_r (by repeat (first | exact Has.here _ | apply Has.there)) (p_from_unsafe Tryz.underlying231 Tryz.underlying121 (rfl : Tryz.prog.info? 123 = some Tryz.t123) (show liesAt _ _ _ (2 / _) 0 _ 1 = true from by kernel_rfl) (fun _=>rfl)) rfl rfl ?_
  refine op_v (p_nilChk (fun _=>rfl) rfl) ?_
  refine op_v (p_fieldAddr0 (off := 0) Tryz.underlying123 rfl rfl Tryz.sizeOf121 (fun _=>rfl)) ?_
  refine op_e (w_store Tryz.sizeOf121 (fun _=>rfl) (fun _=>rfl) rfl (by repeat (first | exact Upd.here _ | apply Upd.there)) (by rfl) (by first | decide | exact Nat.le_refl _ | (simp; done) | (simp; omega)) (by exact free_zero _)) (fun _=>rfl) rfl rfl ?_
  rintro _ _ ⟨rfl, rfl⟩
  refine ops_nil ?_
  refine nx_end0 (H' := _) rfl Tryz.results109 (by exact ⟨rfl, rfl⟩)
 ·
  cases hc1

theorem copyCheck_used (b : Nat) (v : Value) : Does Tryz.prog 109 #[.pointer (some ⟨b, 0, none⟩)] [[(b, .cells #[.pointer (some ⟨b, 0, none⟩), v] 123 (0, 0))]] (fun r H' => r = .tuple #[] ∧ H' = [[(b, .cells #[.pointer (some ⟨b, 0, none⟩), v] 123 (0, 0))]]) := by
 refine spec_enter Tryz.func109 rfl Tryz.ntmps109 rfl ?_
 intro u R
 refine at_slots (env' := [(0, _)]) [0] rfl (fun _=>rfl) ?_
 refine at_seq ?_
 refine at_region ?_
 refine op_v (p_move (fun _=>rfl)) ?_
 refine op_v (p_nilChk (fun _=>rfl) rfl) ?_
 refine op_v (p_fieldAddr0 (off := 0) Tryz.underlying123 rfl rfl Tryz.sizeOf121 (fun _=>rfl)) ?_
 refine op_r (by repeat (first | exact Has.here _ | apply Has.there)) (p_load Tryz.isAgg121 (fun _=>rfl) (by rfl)) rfl rfl ?_
 first | refine op_v (p_eql_nil_nil Tryz.underlying121 (fun _=>rfl) (fun _=>rfl)) ?_ | refine op_v (p_eql_ptr_nil Tryz.underlying121 (fun _=>rfl) (fun _=>rfl)) ?_
 refine ops_nil ?_
 refine nx_next ?_
 refine at_if_bool (fun _=>rfl) (fun hc1 => ?_) (fun hc1 => ?_)
 ·
  cases hc1
 ·
  refine at_seq ?_
  refine at_region ?_
  refine op_v (p_move (fun _=>rfl)) ?_
  refine op_v (p_nilChk (fun _=>rfl) rfl) ?_
  refine op_v (p_fieldAddr0 (off := 0) Tryz.underlying123 rfl rfl Tryz.sizeOf121 (fun _=>rfl)) ?_
  refine op_r (by repeat (first | exact Has.here _ | apply Has.there)) (p_load Tryz.isAgg121 (fun _=>rfl) (by rfl)) rfl rfl ?_
  refine op_v (p_move (fun _=>rfl)) ?_
  refine op_w (p_neq_ptr_same Tryz.underlying121 (rfl : Tryz.prog.info? 123 = some Tryz.t123) (fun _=>rfl) (fun _=>rfl)) rfl rfl ?_
  refine ops_nil ?_
  refine nx_next ?_
  refine at_else (fun _=>rfl) ?_
  refine at_skip ?_
  refine nx_end0 (H' := _) rfl Tryz.results109 (by exact ⟨rfl, rfl⟩)

theorem writeString_fresh (b : Nat) (v : Value) (l x : List UInt8) (sb : List Chunk) (hrow : Row 5 v (l.map u8v) sb) (h0 : 0 < x.length) (hb : l.length + x.length ≤ 1099511627776) : Does Tryz.prog 56 #[.pointer (some ⟨b, 0, none⟩), .string (str x)] [[(b, .cells #[.pointer none, v] 123 (0, 0))], sb] (fun r H' => ∃ v' sb' rv, Row 5 v' ((l ++ x).map u8v) sb' ∧ r = rv ∧ H' = [[(b, .cells #[.pointer (some ⟨b, 0, none⟩), v'] 123 (0, 0))], sb']) := by
 have hml : maxLen = 9223372036854775807 := rfl
 obtain ⟨gv, cv, rfl⟩ := hrow.form
 refine spec_enter Tryz.func56 rfl Tryz.ntmps56 rfl ?_
 intro u R
 refine at_slots (env' := [(0, _), (1, _)]) [0, 1] rfl (fun _=>rfl) ?_
 refine at_seq ?_
 refine at_region ?_
 refine op_v (p_assign (fun _=>rfl)) ?_
 refine op_v (p_assign (fun _=>rfl)) ?_
 refine ops_nil ?_
 refine nx_next ?_
 refine at_seq ?_
 refine at_region ?_
 refine op_v (p_move (fun _=>rfl)) ?_
 refine ops_eff (fun _=>rfl) (fits_of rfl) rfl (w_call (vs := [_]) (fun _=>rfl) Tryz.call109 (fun _=>rfl) rfl (copyCheck_fresh b _) (by repeat (first | exact Pull.nil _ | (apply Pull.cons; (focus (repeat (first | exact One.here _ _ | apply One.there))))))) ?_ no_pan
 rintro _ _ ⟨_, ⟨rfl, rfl⟩, rfl⟩
 refine ops_nil ?_
 refine nx_next ?_
 refine at_seq ?_
 refine at_region ?_
 refine op_v (p_move (fun _=>rfl)) ?_
 refine op_v (p_move (fun _=>rfl)) ?_
 refine op_v (p_nilChk (fun _=>rfl) rfl) ?_
 refine op_v (p_fieldAddr0 (off := 1) Tryz.underlying123 rfl rfl Tryz.sizeOf36 (fun _=>rfl)) ?_
 refine op_r (by repeat (first | exact Has.here _ | apply Has.there)) (p_load Tryz.isAgg36 (fun _=>rfl) (by rfl)) rfl rfl ?_
 refine op_v (p_move (fun _=>rfl)) ?_
 refine op_e (w_append_str (by_ := 1) Tryz.underlying36 Tryz.underlying9 (rfl : Tryz.prog.info? 5 = some Tryz.t5) rfl rfl rfl rfl (fun _=>rfl) hrow (fun _=>rfl) (by repeat (first | exact One.here _ _ | apply One.there)) (by omega) (by (rw [List.length_map]; omega)) (by (rw [List.length_map]; omega))) (fun _=>rfl) rfl rfl ?_
 rintro _ _ ⟨sq, hrq, rfl⟩
 obtain ⟨gq, cq, rfl⟩ := hrq.form
 refine op_v (p_nilChk (fun _=>rfl) rfl) ?_
 refine op_v (p_fieldAddr0 (off := 1) Tryz.underlying123 rfl rfl Tryz.sizeOf36 (fun _=>rfl)) ?_
 refine op_e (w_store Tryz.sizeOf36 (fun _=>rfl) (fun _=>rfl) rfl (by repeat (first | exact Upd.here _ | apply Upd.there)) (by rfl) (by first | decide | exact Nat.le_refl _ | (simp; done) | (simp; omega)) (by exact free_zero _)) (fun _=>rfl) rfl rfl ?_
 rintro _ _ ⟨rfl, rfl⟩
 refine ops_nil ?_
 refine nx_slots (env' := [(1, _)]) [1] rfl (fun _=>rfl) ?_
 refine nx_next ?_
 refine at_seq ?_
 refine at_region ?_
 refine op_v (p_move (fun _=>rfl)) ?_
 refine op_v (p_len_str Tryz.underlying9 (fun _=>rfl)) ?_
 refine op_v (p_assign (fun _=>rfl)) ?_
 refine op_v (p_assign (fun _=>rfl)) ?_
 refine ops_nil ?_
 refine nx_next ?_
 refine at_ret ?_
 refine nx_end2 (H' := _) rfl Tryz.results56 (fun _=>rfl) (fun _=>rfl) (by exact ⟨_, sq, _, (by rw [List.map_append]; exact hrq), rfl, rfl⟩)

theorem writeString_used (b : Nat) (v : Value) (l x : List UInt8) (sb : List Chunk) (hrow : Row 5 v (l.map u8v) sb) (h0 : 0 < x.length) (hb : l.length + x.length ≤ 1099511627776) : Does Tryz.prog 56 #[.pointer (some ⟨b, 0, none⟩), .string (str x)] [[(b, .cells #[.pointer (some ⟨b, 0, none⟩), v] 123 (0, 0))], sb] (fun r H' => ∃ v' sb' rv, Row 5 v' ((l ++ x).map u8v) sb' ∧ r = rv ∧ H' = [[(b, .cells #[.pointer (some ⟨b, 0, none⟩), v'] 123 (0, 0))], sb']) := by
 have hml : maxLen = 9223372036854775807 := rfl
 obtain ⟨gv, cv, rfl⟩ := hrow.form
 refine spec_enter Tryz.func56 rfl Tryz.ntmps56 rfl ?_
 intro u R
 refine at_slots (env' := [(0, _), (1, _)]) [0, 1] rfl (fun _=>rfl) ?_
 refine at_seq ?_
 refine at_region ?_
 refine op_v (p_assign (fun _=>rfl)) ?_
 refine op_v (p_assign (fun _=>rfl)) ?_
 refine ops_nil ?_
 refine nx_next ?_
 refine at_seq ?_
 refine at_region ?_
 refine op_v (p_move (fun _=>rfl)) ?_
 refine ops_eff (fun _=>rfl) (fits_of rfl) rfl (w_call (vs := [_]) (fun _=>rfl) Tryz.call109 (fun _=>rfl) rfl (copyCheck_used b _) (by repeat (first | exact Pull.nil _ | (apply Pull.cons; (focus (repeat (first | exact One.here _ _ | apply One.there))))))) ?_ no_pan
 rintro _ _ ⟨_, ⟨rfl, rfl⟩, rfl⟩
 refine ops_nil ?_
 refine nx_next ?_
 refine at_seq ?_
 refine at_region ?_
 refine op_v (p_move (fun _=>rfl)) ?_
 refine op_v (p_move (fun _=>rfl)) ?_
 refine op_v (p_nilChk (fun _=>rfl) rfl) ?_
 refine op_v (p_fieldAddr0 (off := 1) Tryz.underlying123 rfl rfl Tryz.sizeOf36 (fun _=>rfl)) ?_
 refine op_r (by repeat (first | exact Has.here _ | apply Has.there)) (p_load Tryz.isAgg36 (fun _=>rfl) (by rfl)) rfl rfl ?_
 refine op_v (p_move (fun _=>rfl)) ?_
 refine op_e (w_append_str (by_ := 1) Tryz.underlying36 Tryz.underlying9 (rfl : Tryz.prog.info? 5 = some Tryz.t5) rfl rfl rfl rfl (fun _=>rfl) hrow (fun _=>rfl) (by repeat (first | exact One.here _ _ | apply One.there)) (by omega) (by (rw [List.length_map]; omega)) (by (rw [List.length_map]; omega))) (fun _=>rfl) rfl rfl ?_
 rintro _ _ ⟨sq, hrq, rfl⟩
 obtain ⟨gq, cq, rfl⟩ := hrq.form
 refine op_v (p_nilChk (fun _=>rfl) rfl) ?_
 refine op_v (p_fieldAddr0 (off := 1) Tryz.underlying123 rfl rfl Tryz.sizeOf36 (fun _=>rfl)) ?_
 refine op_e (w_store Tryz.sizeOf36 (fun _=>rfl) (fun _=>rfl) rfl (by repeat (first | exact Upd.here _ | apply Upd.there)) (by rfl) (by first | decide | exact Nat.le_refl _ | (simp; done) | (simp; omega)) (by exact free_zero _)) (fun _=>rfl) rfl rfl ?_
 rintro _ _ ⟨rfl, rfl⟩
 refine ops_nil ?_
 refine nx_slots (env' := [(1, _)]) [1] rfl (fun _=>rfl) ?_
 refine nx_next ?_
 refine at_seq ?_
 refine at_region ?_
 refine op_v (p_move (fun _=>rfl)) ?_
 refine op_v (p_len_str Tryz.underlying9 (fun _=>rfl)) ?_
 refine op_v (p_assign (fun _=>rfl)) ?_
 refine op_v (p_assign (fun _=>rfl)) ?_
 refine ops_nil ?_
 refine nx_next ?_
 refine at_ret ?_
 refine nx_end2 (H' := _) rfl Tryz.results56 (fun _=>rfl) (fun _=>rfl) (by exact ⟨_, sq, _, (by rw [List.map_append]; exact hrq), rfl, rfl⟩)

theorem builderString_some (b g cap : Nat) (p : Value) (l : List UInt8) (cur : Array Value) (z : Nat × Nat) (h0 : 0 < l.length) (hc : cap ≠ 0) (hl : l.length ≤ 9223372036854775807) (htk : cur.toList.take l.length = l.map u8v) : Does Tryz.prog 58 #[.pointer (some ⟨b, 0, none⟩)] [[(b, .cells #[p, .slice (some ⟨g, 0, none⟩) l.length cap] 123 (0, 0))], [(g, .cells cur 5 z)]] (fun r H' => r = .string (str l) ∧ H' = [[(b, .cells #[p, .slice (some ⟨g, 0, none⟩) l.length cap] 123 (0, 0))]]) := by
 refine spec_enter Tryz.func58 rfl Tryz.ntmps58 rfl ?_
 intro u R
 refine at_slots (env' := [(0, _)]) [0] rfl (fun _=>rfl) ?_
 refine at_seq ?_
 refine at_region ?_
 refine op_v (p_assign (fun _=>rfl)) ?_
 refine ops_nil ?_
 refine nx_next ?_
 refine at_seq ?_
 refine at_draw (n := 12) (0 :: 1 :: 3 :: 7 :: 15 :: 0 :: 32 :: 96 :: 224 :: 480 :: 1023 :: 2047 :: []) 1040 (by kernel_rfl) (by kernel_rfl) rfl ?_
 refine lin_v (D' := 1) 0 (p_move (fun _=>rfl)) ?_
 refine lin_v (D' := 3) 1 (p_nilChk (fun _=>rfl) rfl) ?_
 refine lin_v (D' := 7) 2 (p_fieldAddr0 (off := 1) Tryz.underlying123 rfl rfl Tryz.sizeOf36 (fun _=>rfl)) ?_
 refine lin_r (D' := 15) 3 rfl rfl rfl (by repeat (first | exact Has.here _ | apply Has.there)) (p_load Tryz.isAgg36 (fun _=>rfl) (by rfl)) ?_
 refine lin_v (D' := 47) 5 (p_move (fun _=>rfl)) ?_
 refine lin_v (D' := 111) 6 (p_nilChk (fun _=>rfl) rfl) ?_
 refine lin_v (D' := 239) 7 (p_fieldAddr0 (off := 1) Tryz.underlying123 rfl rfl Tryz.sizeOf36 (fun _=>rfl)) ?_
 refine lin_r (D' := 495) 8 rfl rfl rfl (by repeat (first | exact Has.here _ | apply Has.there)) (p_load Tryz.isAgg36 (fun _=>rfl) (by rfl)) ?_
 refine lin_v (D' := 1007) 9 (p_len_slice Tryz.underlying36 (fun _=>rfl)) ?_
 refine lin_eff (l := [4]) (by kernel_rfl) (by kernel_rfl) ?_
 refine each_cons (m := 15) (D' := 1023) (is := [8, 3]) (bs := [true, false]) (T' := [(8, (_, _))]) rfl (fun _=>rfl) rfl rfl rfl (by kernel_rfl) rfl (w_sliceData (fun _=>rfl) hc) ?hk_1 (fun _ _ h => h.elim) ?hl_1
 case hk_1 =>
  rintro _ _ ⟨rfl, rfl⟩
  refine ⟨keep_cons (by repeat (first | exact Has.here _ | apply Has.there)) (keep_nil), ?_⟩
  refine lin_eff (l := [10]) (by kernel_rfl) (by kernel_rfl) ?_
  refine each_cons (m := 1023) (D' := 2047) (is := [8]) (bs := [false]) (T' := []) rfl (fun _=>rfl) rfl rfl rfl (by kernel_rfl) rfl (w_unsafeString (l := l) Tryz.underlying193 (by kernel_rfl) (fun _=>rfl) (fun _=>rfl) (List.ne_nil_of_length_pos h0) hl (by repeat (first | exact One.here _ _ | apply One.there)) htk) ?hk_2 (fun _ _ h => h.elim) ?hl_2
  case hk_2 =>
   rintro _ _ ⟨rfl, rfl⟩
   refine ⟨keep_nil, ?_⟩
   refine lin_v (D' := 4095) 11 (p_assign (fun _=>rfl)) ?_
   refine lin_nil ?_
   refine nx_slots (env' := [(2, _)]) [2] rfl (fun _=>rfl) ?_
   refine nx_next ?_
   refine at_ret ?_
   refine nx_end1 (H' := _) rfl Tryz.results58 (fun _=>rfl) (by exact ⟨rfl, rfl⟩)
  case hl_2 =>
   exact each_nil
 case hl_1 =>
  exact each_nil

theorem builderString_none (b : Nat) (p : Value) : Does Tryz.prog 58 #[.pointer (some ⟨b, 0, none⟩)] [[(b, .cells #[p, .slice none 0 0] 123 (0, 0))]] (fun r H' => r = .string (str []) ∧ H' = [[(b, .cells #[p, .slice none 0 0] 123 (0, 0))]]) := by
 refine spec_enter Tryz.func58 rfl Tryz.ntmps58 rfl ?_
 intro u R
 refine at_slots (env' := [(0, _)]) [0] rfl (fun _=>rfl) ?_
 refine at_seq ?_
 refine at_region ?_
 refine op_v (p_assign (fun _=>rfl)) ?_
 refine ops_nil ?_
 refine nx_next ?_
 refine at_seq ?_
 refine at_draw (n := 12) (0 :: 1 :: 3 :: 7 :: 15 :: 0 :: 32 :: 96 :: 224 :: 480 :: 1023 :: 2047 :: []) 1040 (by kernel_rfl) (by kernel_rfl) rfl ?_
 refine lin_v (D' := 1) 0 (p_move (fun _=>rfl)) ?_
 refine lin_v (D' := 3) 1 (p_nilChk (fun _=>rfl) rfl) ?_
 refine lin_v (D' := 7) 2 (p_fieldAddr0 (off := 1) Tryz.underlying123 rfl rfl Tryz.sizeOf36 (fun _=>rfl)) ?_
 refine lin_r (D' := 15) 3 rfl rfl rfl (by repeat (first | exact Has.here _ | apply Has.there)) (p_load Tryz.isAgg36 (fun _=>rfl) (by rfl)) ?_
 refine lin_v (D' := 47) 5 (p_move (fun _=>rfl)) ?_
 refine lin_v (D' := 111) 6 (p_nilChk (fun _=>rfl) rfl) ?_
 refine lin_v (D' := 239) 7 (p_fieldAddr0 (off := 1) Tryz.underlying123 rfl rfl Tryz.sizeOf36 (fun _=>rfl)) ?_
 refine lin_r (D' := 495) 8 rfl rfl rfl (by repeat (first | exact Has.here _ | apply Has.there)) (p_load Tryz.isAgg36 (fun _=>rfl) (by rfl)) ?_
 refine lin_v (D' := 1007) 9 (p_len_slice Tryz.underlying36 (fun _=>rfl)) ?_
 refine lin_eff (l := [4]) (by kernel_rfl) (by kernel_rfl) ?_
 refine each_cons (m := 15) (D' := 1023) (is := [8, 3]) (bs := [true, false]) (T' := [(8, (_, _))]) rfl (fun _=>rfl) rfl rfl rfl (by kernel_rfl) rfl (w_sliceData_nil (fun _=>rfl)) ?hk_1 (fun _ _ h => h.elim) ?hl_1
 case hk_1 =>
  rintro _ _ ⟨rfl, rfl⟩
  refine ⟨keep_cons (by repeat (first | exact Has.here _ | apply Has.there)) (keep_nil), ?_⟩
  refine lin_eff (l := [10]) (by kernel_rfl) (by kernel_rfl) ?_
  refine each_cons (m := 1023) (D' := 2047) (is := [8]) (bs := [false]) (T' := []) rfl (fun _=>rfl) rfl rfl rfl (by kernel_rfl) rfl (w_unsafeString_none (fun _=>rfl) (fun _=>rfl)) ?hk_2 (fun _ _ h => h.elim) ?hl_2
  case hk_2 =>
   rintro _ _ ⟨rfl, rfl⟩
   refine ⟨keep_nil, ?_⟩
   refine lin_v (D' := 4095) 11 (p_assign (fun _=>rfl)) ?_
   refine lin_nil ?_
   refine nx_slots (env' := [(2, _)]) [2] rfl (fun _=>rfl) ?_
   refine nx_next ?_
   refine at_ret ?_
   refine nx_end1 (H' := _) rfl Tryz.results58 (fun _=>rfl) (by exact ⟨rfl, rfl⟩)
  case hl_2 =>
   exact each_nil
 case hl_1 =>
  exact each_nil

end Go.Proofs.YthbadolcncojbaaGreatDoor
