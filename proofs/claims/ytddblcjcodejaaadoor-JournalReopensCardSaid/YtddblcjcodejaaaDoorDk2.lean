/- Contracts: disk.Write, Sync, Read. -/
import Derived.Test.YtddblcjcodejaaaDoorDk1
namespace Go.Proofs.YtddblcjcodejaaaDoor
open Go Go.RowKit Gw
set_option linter.unusedVariables false
set_option maxRecDepth 100000
attribute [local irreducible] Gw.At Gw.Nx Gw.Ops
theorem cut_form (b o n : Nat) (h : o < n) : (Value.slice (cutAt (some ⟨b, 0, none⟩) o n 1) (n - o) (n - o)) = .slice (some ⟨b, o, none⟩) (n - o) (n - o) := by
  unfold cutAt
  rw [if_neg (by omega), Option.map_some, add_addr, Nat.mul_one, Nat.zero_add]
theorem bytes_all (l : List UInt8) : CellsIn (byc l) 0 (l.map u8v) := by
  unfold CellsIn byc
  rw [List.drop_zero]
  exact List.take_of_length_le (Nat.le_refl _)

theorem onto_spec (o n bv : Nat) (s vi : List UInt8) (Tv : TypeId) (h : o + s.length ≤ n) (ho : o < n) (hn : n ≤ 4194304) (hv : vi.length = n) :
    Does Tryd.prog 36 #[.agg #[.int .i64 (o : Int), .string (str s)], .slice (some ⟨bv, 0, none⟩) n n] [[(bv, .cells (byc vi) Tv (0, 0))]] (fun r H' => r = .tuple #[] ∧ H' = [[(bv, .cells (byc (splice vi o s)) Tv (0, 0))]]) := by
  refine spec_enter Tryd.func36 rfl Tryd.ntmps36 rfl ?_
  intro u R
  refine at_slots (env' := [(0, _), (1, _)]) [0, 1] rfl (fun _ => rfl) ?_
  refine at_seq ?_
  refine at_region ?_
  refine op_e (w_box (fun _ => rfl) (cs := #[_, _]) rfl) (fun _ => rfl) rfl rfl ?_
  rintro _ _ ⟨b1, rfl, rfl⟩
  refine ops_nil ?_
  refine nx_slots (env' := [(1, _), (2, _)]) [1, 2] rfl (fun _ => rfl) ?_
  refine nx_next ?_
  refine at_draw (n := 7) (0 :: 0 :: 2 :: 7 :: 0 :: 16 :: 63 :: []) 64 (by kernel_rfl) (by kernel_rfl) rfl ?_
  refine lin_w (D' := 1) 0 rfl rfl rfl (p_move (fun _ => rfl)) ?_
  first | refine lin_w (D' := 3) 1 rfl rfl rfl (p_fieldAddr0 (off := 0) Tryd.underlying76 rfl rfl Tryd.sizeOf3 (fun _ => rfl)) ?_ | refine lin_w (D' := 3) 1 rfl rfl rfl (p_fieldAddr1 (off := 0) Tryd.underlying76 rfl rfl Tryd.sizeOf3 (fun _ => rfl)) ?_
  refine lin_r (D' := 7) 2 rfl rfl rfl (by repeat (first | exact Has.here _ | apply Has.there)) (p_load Tryd.isAgg3 (fun _ => rfl) (by rfl)) ?_
  (refine lin_w (D' := 15) 3 rfl rfl rfl (p_slice_slice_from1 Tryd.underlying38 Tryd.sizeOf5 (fun _ => rfl) (fun _ => rfl) ?_ ?_) ?_; (focus (omega)); (focus (omega)))
  first | refine lin_w (D' := 31) 4 rfl rfl rfl (p_fieldAddr0 (off := 1) Tryd.underlying76 rfl rfl Tryd.sizeOf9 (fun _ => rfl)) ?_ | refine lin_w (D' := 31) 4 rfl rfl rfl (p_fieldAddr1 (off := 1) Tryd.underlying76 rfl rfl Tryd.sizeOf9 (fun _ => rfl)) ?_
  refine lin_r (D' := 63) 5 rfl rfl rfl (by repeat (first | exact Has.here _ | apply Has.there)) (p_load Tryd.isAgg9 (fun _ => rfl) (by rfl)) ?_
  refine lin_eff (l := [6]) (by kernel_rfl) (by kernel_rfl) ?_
  refine each_cons (m := 63) (D' := 127) (is := [5, 2]) (bs := [false, false]) (T' := []) rfl rfl rfl rfl (by kernel_rfl) rfl (w_copy_str (cs := s.map u8v) (c' := byc (splice vi o s)) Tryd.underlying38 Tryd.sizeOf5 (fun _ => rfl) (fun _ => rfl) (by repeat (first | exact Upd.here _ | apply Upd.there)) (by rw [str_list, List.take_of_length_le (by omega)]) (by rw [Nat.zero_add]; exact over_splice vi o s) (by rw [byc_size, List.length_map]; omega) (free_zero _)) ?hk_1 (fun _ _ h => h.elim) ?hl_1
  case hk_1 =>
    rintro _ _ ⟨rfl, rfl⟩
    refine ⟨keep_nil, ?_⟩
    refine lin_nil ?_
    refine nx_slots (env' := []) [] rfl (fun _ => rfl) ?_
    refine nx_end0 (H' := _) rfl Tryd.results36 (by exact ⟨rfl, rfl⟩) ?hp_2
    case hp_2 => repeat (first | exact Sub.refl _ | exact Sub.nil _ | refine Sub.cons (by repeat (first | exact One.here _ _ | apply One.there)) ?_ | refine Sub.drop _ ?_)
  case hl_1 =>
    exact each_nil

theorem settle_spec (off : Bool) (dp left bd bv n bf bt k : Nat) (pv : Value) (xs : List Value) (sp : List Chunk) (fl tl : List UInt8) (Td Tf Tt : TypeId) (hf : fl.length = n) (ht : tl.length = n) (hn : n ≤ 4194304) (hr : RowS 2 76 pv k xs sp) :
    Does Tryd.prog 49 #[.pointer (some ⟨dp, 0, none⟩), .slice (some ⟨bf, 0, none⟩) n n, .slice (some ⟨bt, 0, none⟩) n n] [[(dp, .cells (dkc off left bd bv n pv) Td (0, 0))], [(bf, .cells (byc fl) Tf (0, 0))], [(bt, .cells (byc tl) Tt (0, 0))], sp]
      (fun r H' => r = .tuple #[] ∧ ∃ b c sp', RowS 2 76 (.slice b 0 c) 0 [] sp' ∧ H' = [[(dp, .cells (dkc off left bd bv n (.slice b 0 c)) Td (0, 0))], [(bf, .cells (byc fl) Tf (0, 0))], [(bt, .cells (byc fl) Tt (0, 0))], sp']) := by
  refine spec_enter Tryd.func49 rfl Tryd.ntmps49 rfl ?_
  intro u R
  obtain ⟨b, c, rfl⟩ := hr.form
  refine at_slots (env' := [(0, _), (1, _), (2, _)]) [0, 1, 2] rfl (fun _ => rfl) ?_
  refine at_seq ?_
  refine at_region ?_
  refine op_w (p_move (fun _ => rfl)) rfl rfl ?_
  refine op_w (p_move (fun _ => rfl)) rfl rfl ?_
  refine op_e (w_copy (cs := fl.map u8v) (c' := byc fl) Tryd.underlying38 Tryd.sizeOf5 (fun _ => rfl) (fun _ => rfl) (by repeat (first | exact Has.here _ | apply Has.there)) (by repeat (first | exact Upd.here _ | apply Upd.there)) (bytes_all fl) (by rw [List.length_map, hf, Nat.min_self]) (over_new _ _ (by simp [byc]; omega)) (by rw [byc_size, List.length_map]; omega) (free_zero _) (bytes_one fl)) (fun _ => rfl) rfl rfl ?_
  rintro _ _ ⟨rfl, rfl⟩
  refine ops_nil ?_
  refine nx_slots (env' := [(0, _)]) [0] rfl (fun _ => rfl) ?_
  refine nx_next ?_
  refine at_seq ?_
  refine at_region ?_
  refine op_w (p_move (fun _ => rfl)) rfl rfl ?_
  first | refine op_w (p_nilCheck (fun _ => rfl)) rfl rfl ?_ | refine op_w (p_nilCheck_iface (fun _ => rfl)) rfl rfl ?_
  first | refine op_w (p_fieldAddr0 (off := 4) Tryd.underlying51 rfl rfl Tryd.sizeOf49 (fun _ => rfl)) rfl rfl ?_ | refine op_w (p_fieldAddr1 (off := 4) Tryd.underlying51 rfl rfl Tryd.sizeOf49 (fun _ => rfl)) rfl rfl ?_
  refine op_r (by repeat (first | exact Has.here _ | apply Has.there)) (p_load Tryd.isAgg49 (fun _ => rfl) (by rfl)) rfl rfl ?_
  refine op_e (w_clearS Tryd.underlying49 (rfl : Tryd.prog.info? 76 = some Tryd.t76) rfl rfl (by simp [Value.cells, Value.oneCell']) (fun _ => rfl) hr (by repeat (first | exact One.here _ _ | apply One.there))) (fun _ => rfl) rfl rfl ?_
  rintro _ _ ⟨xsq, sq, hrq, rfl⟩
  refine ops_nil ?_
  refine nx_slots (env' := [(0, _)]) [0] rfl (fun _ => rfl) ?_
  refine nx_next ?_
  refine at_region ?_
  refine op_w (p_move (fun _ => rfl)) rfl rfl ?_
  refine op_w (p_move (fun _ => rfl)) rfl rfl ?_
  first | refine op_w (p_nilCheck (fun _ => rfl)) rfl rfl ?_ | refine op_w (p_nilCheck_iface (fun _ => rfl)) rfl rfl ?_
  first | refine op_w (p_fieldAddr0 (off := 4) Tryd.underlying51 rfl rfl Tryd.sizeOf49 (fun _ => rfl)) rfl rfl ?_ | refine op_w (p_fieldAddr1 (off := 4) Tryd.underlying51 rfl rfl Tryd.sizeOf49 (fun _ => rfl)) rfl rfl ?_
  refine op_r (by repeat (first | exact Has.here _ | apply Has.there)) (p_load Tryd.isAgg49 (fun _ => rfl) (by rfl)) rfl rfl ?_
  (refine op_w (p_slice_slice_to (h := 0) Tryd.underlying49 Tryd.sizeOf76 (fun _ => rfl) (fun _ => rfl) ?_) rfl rfl ?_; (focus (first | exact Nat.zero_le _ | decide | exact Nat.le_refl _ | (simp; done) | (simp; omega))))
  first | refine op_w (p_nilCheck (fun _ => rfl)) rfl rfl ?_ | refine op_w (p_nilCheck_iface (fun _ => rfl)) rfl rfl ?_
  first | refine op_w (p_fieldAddr0 (off := 4) Tryd.underlying51 rfl rfl Tryd.sizeOf49 (fun _ => rfl)) rfl rfl ?_ | refine op_w (p_fieldAddr1 (off := 4) Tryd.underlying51 rfl rfl Tryd.sizeOf49 (fun _ => rfl)) rfl rfl ?_
  refine op_e (w_store Tryd.sizeOf49 (fun _ => rfl) (fun _ => rfl) rfl (by repeat (first | exact Upd.here _ | apply Upd.there)) (by rfl) (by first | exact Nat.zero_le _ | decide | exact Nat.le_refl _ | (simp; done) | (simp; omega)) (by exact free_zero _)) (fun _ => rfl) rfl rfl ?_
  rintro _ _ ⟨rfl, rfl⟩
  refine ops_nil ?_
  refine nx_slots (env' := []) [] rfl (fun _ => rfl) ?_
  refine nx_end0 (H' := _) rfl Tryd.results49 (by exact ⟨rfl, b, c, sq, hrq.cut, rfl⟩) ?hp_1
  case hp_1 => repeat (first | exact Sub.refl _ | exact Sub.nil _ | refine Sub.cons (by repeat (first | exact One.here _ _ | apply One.there)) ?_ | refine Sub.drop _ ?_)

theorem sync_spec (left dp bd bv n k : Nat) (pv : Value) (xs : List Value) (sp : List Chunk) (du vi : List UInt8) (hd : du.length = n) (hv : vi.length = n) (hn : n ≤ 4194304) (hr : RowS 2 76 pv k xs sp) : Does Tryd.prog 26 #[.pointer (some ⟨dp, 0, none⟩)] [[(dp, .cells (dkc false left bd bv n pv) 51 (0, 0))], [(bd, .cells (byc du) 5 (0, 0))], [(bv, .cells (byc vi) 5 (0, 0))], sp] (fun r H' => r = .int .i64 0 ∧ ∃ b c sp', RowS 2 76 (.slice b 0 c) 0 [] sp' ∧ H' = [[(dp, .cells (dkc false left bd bv n (.slice b 0 c)) 51 (0, 0))], [(bd, .cells (byc vi) 5 (0, 0))], [(bv, .cells (byc vi) 5 (0, 0))], sp']) := by
  refine spec_enter Tryd.func26 rfl Tryd.ntmps26 rfl ?_
  intro u R
  refine at_slots (env' := [(0, _)]) [0] rfl (fun _ => rfl) ?_
  refine at_seq ?_
  refine at_region ?_
  refine op_w (p_assign (fun _ => rfl)) rfl rfl ?_
  refine ops_nil ?_
  refine nx_slots (env' := [(0, _)]) [0] rfl (fun _ => rfl) ?_
  refine nx_next ?_
  refine at_seq ?_
  refine at_region ?_
  refine op_w (p_move (fun _ => rfl)) rfl rfl ?_
  refine op_e (w_callR (vs := [_]) (fun _ => rfl) Tryd.call34 (fun _ => rfl) rfl (check_on _ _ _ _ _ _ _) (by repeat (first | exact Pull.nil _ | (apply Pull.cons; (focus (repeat (first | exact One.here _ _ | apply One.there))))))) (fun _ => rfl) rfl rfl ?_
  rintro _ _ ⟨rfl, rfl⟩
  refine op_w (p_assign (fun _ => rfl)) rfl rfl ?_
  refine ops_nil ?_
  refine nx_slots (env' := [(0, _), (3, _)]) [0, 3] rfl (fun _ => rfl) ?_
  refine nx_next ?_
  refine at_seq ?_
  refine at_seq ?_
  refine at_region ?_
  refine op_w (p_move (fun _ => rfl)) rfl rfl ?_
  first | refine op_w (p_eql_nat (n := 0) (fun _ => rfl) (fun _ => rfl)) rfl rfl ?_ | refine op_w (p_eql (fun _ => rfl) (fun _ => rfl)) rfl rfl ?_
  refine ops_nil ?_
  refine nx_slots (env' := [(0, _), (3, _), (7, _)]) [0, 3, 7] rfl (fun _ => rfl) ?_
  refine nx_next ?_
  first | refine at_if (fun _ => rfl) (fun hc1 => ?_) (fun hc1 => ?_) | refine at_if_bool (fun _ => rfl) (fun hc1 => ?_) (fun hc1 => ?_)
  ·
    refine at_draw (n := 10) (0 :: 0 :: 2 :: 6 :: 14 :: 0 :: 32 :: 96 :: 224 :: 511 :: []) 512 (by kernel_rfl) (by kernel_rfl) rfl ?_
    refine lin_w (D' := 1) 0 rfl rfl rfl (p_move (fun _ => rfl)) ?_
    refine lin_w (D' := 3) 1 rfl rfl rfl (p_move (fun _ => rfl)) ?_
    first | refine lin_w (D' := 7) 2 rfl rfl rfl (p_nilCheck (fun _ => rfl)) ?_ | refine lin_w (D' := 7) 2 rfl rfl rfl (p_nilCheck_iface (fun _ => rfl)) ?_
    first | refine lin_w (D' := 15) 3 rfl rfl rfl (p_fieldAddr0 (off := 3) Tryd.underlying51 rfl rfl Tryd.sizeOf38 (fun _ => rfl)) ?_ | refine lin_w (D' := 15) 3 rfl rfl rfl (p_fieldAddr1 (off := 3) Tryd.underlying51 rfl rfl Tryd.sizeOf38 (fun _ => rfl)) ?_
    refine lin_r (D' := 31) 4 rfl rfl rfl (by repeat (first | exact Has.here _ | apply Has.there)) (p_load Tryd.isAgg38 (fun _ => rfl) (by rfl)) ?_
    refine lin_w (D' := 63) 5 rfl rfl rfl (p_move (fun _ => rfl)) ?_
    first | refine lin_w (D' := 127) 6 rfl rfl rfl (p_nilCheck (fun _ => rfl)) ?_ | refine lin_w (D' := 127) 6 rfl rfl rfl (p_nilCheck_iface (fun _ => rfl)) ?_
    first | refine lin_w (D' := 255) 7 rfl rfl rfl (p_fieldAddr0 (off := 2) Tryd.underlying51 rfl rfl Tryd.sizeOf38 (fun _ => rfl)) ?_ | refine lin_w (D' := 255) 7 rfl rfl rfl (p_fieldAddr1 (off := 2) Tryd.underlying51 rfl rfl Tryd.sizeOf38 (fun _ => rfl)) ?_
    refine lin_r (D' := 511) 8 rfl rfl rfl (by repeat (first | exact Has.here _ | apply Has.there)) (p_load Tryd.isAgg38 (fun _ => rfl) (by rfl)) ?_
    refine lin_eff (l := [9]) (by kernel_rfl) (by kernel_rfl) ?_
    refine each_cons (m := 511) (D' := 1023) (is := [8, 4]) (bs := [false, false]) (T' := []) rfl rfl rfl rfl (by kernel_rfl) rfl (w_call (vs := [_, _, _]) (fun _ => rfl) Tryd.call49 (fun _ => rfl) rfl (settle_spec _ _ _ _ _ _ _ _ _ _ _ _ _ _ _ _ _ hv hd hn hr) (by repeat (first | exact Pull.nil _ | (apply Pull.cons; (focus (repeat (first | exact One.here _ _ | apply One.there))))))) ?hk_1 no_pan ?hl_1
    case hk_1 =>
      rintro _ _ ⟨_, ⟨rfl, b, c, sq, hrq, rfl⟩, rfl⟩
      refine ⟨keep_nil, ?_⟩
      refine lin_nil ?_
      refine nx_slots (env' := [(3, _)]) [3] rfl (fun _ => rfl) ?_
      refine nx_next ?_
      refine at_seq ?_
      refine at_region ?_
      refine op_w (p_move (fun _ => rfl)) rfl rfl ?_
      refine op_w (p_assign (fun _ => rfl)) rfl rfl ?_
      refine ops_nil ?_
      refine nx_slots (env' := [(2, _)]) [2] rfl (fun _ => rfl) ?_
      refine nx_next ?_
      refine at_ret ?_
      refine nx_end1 (H' := _) rfl Tryd.results26 (fun _ => rfl) (by exact ⟨rfl, b, c, sq, hrq, rfl⟩) ?hp_2
      case hp_2 => repeat (first | exact Sub.refl _ | exact Sub.nil _ | refine Sub.cons (by repeat (first | exact One.here _ _ | apply One.there)) ?_ | refine Sub.drop _ ?_)
    case hl_1 =>
      exact each_nil
  ·
    exact absurd rfl hc1

theorem sync_off (left dp bd bv n : Nat) (pv : Value) (Td : TypeId) : DoesR Tryd.prog 26 #[.pointer (some ⟨dp, 0, none⟩)] [[(dp, .cells (dkc true left bd bv n pv) Td (0, 0))]] (.int .i64 221) := by
  refine spec_enter Tryd.func26 rfl Tryd.ntmps26 rfl ?_
  intro u R
  refine at_slots (env' := [(0, _)]) [0] rfl (fun _ => rfl) ?_
  refine at_seq ?_
  refine at_region ?_
  refine op_w (p_assign (fun _ => rfl)) rfl rfl ?_
  refine ops_nil ?_
  refine nx_slots (env' := [(0, _)]) [0] rfl (fun _ => rfl) ?_
  refine nx_next ?_
  refine at_seq ?_
  refine at_region ?_
  refine op_w (p_move (fun _ => rfl)) rfl rfl ?_
  refine op_e (w_callR (vs := [_]) (fun _ => rfl) Tryd.call34 (fun _ => rfl) rfl (check_off _ _ _ _ _ _ _) (by repeat (first | exact Pull.nil _ | (apply Pull.cons; (focus (repeat (first | exact One.here _ _ | apply One.there))))))) (fun _ => rfl) rfl rfl ?_
  rintro _ _ ⟨rfl, rfl⟩
  refine op_w (p_assign (fun _ => rfl)) rfl rfl ?_
  refine ops_nil ?_
  refine nx_slots (env' := [(0, _), (3, _)]) [0, 3] rfl (fun _ => rfl) ?_
  refine nx_next ?_
  refine at_seq ?_
  refine at_seq ?_
  refine at_region ?_
  refine op_w (p_move (fun _ => rfl)) rfl rfl ?_
  first | refine op_w (p_eql_nat (n := 0) (fun _ => rfl) (fun _ => rfl)) rfl rfl ?_ | refine op_w (p_eql (fun _ => rfl) (fun _ => rfl)) rfl rfl ?_
  refine ops_nil ?_
  refine nx_slots (env' := [(0, _), (3, _), (7, _)]) [0, 3, 7] rfl (fun _ => rfl) ?_
  refine nx_next ?_
  first | refine at_if (fun _ => rfl) (fun hc1 => ?_) (fun hc1 => ?_) | refine at_if_bool (fun _ => rfl) (fun hc1 => ?_) (fun hc1 => ?_)
  ·
    exact absurd hc1 (by decide)
  ·
    refine at_skip ?_
    refine nx_next ?_
    refine at_seq ?_
    refine at_region ?_
    refine op_w (p_move (fun _ => rfl)) rfl rfl ?_
    refine op_w (p_assign (fun _ => rfl)) rfl rfl ?_
    refine ops_nil ?_
    refine nx_slots (env' := [(2, _)]) [2] rfl (fun _ => rfl) ?_
    refine nx_next ?_
    refine at_ret ?_
    refine nx_end1 (H' := _) rfl Tryd.results26 (fun _ => rfl) (by exact ⟨rfl, rfl⟩) ?hp_1
    case hp_1 => repeat (first | exact Sub.refl _ | exact Sub.nil _ | refine Sub.cons (by repeat (first | exact One.here _ _ | apply One.there)) ?_ | refine Sub.drop _ ?_)

theorem write_off (left dp bd bv n : Nat) (o : Int) (s : ByteArray) (pv : Value) (Td : TypeId) : DoesR Tryd.prog 19 #[.pointer (some ⟨dp, 0, none⟩), .int .i64 o, .string s] [[(dp, .cells (dkc true left bd bv n pv) Td (0, 0))]] (.int .i64 221) := by
  refine spec_enter Tryd.func19 rfl Tryd.ntmps19 rfl ?_
  intro u R
  refine at_slots (env' := [(0, _), (1, _), (2, _)]) [0, 1, 2] rfl (fun _ => rfl) ?_
  refine at_seq ?_
  refine at_region ?_
  refine op_w (p_assign (fun _ => rfl)) rfl rfl ?_
  refine ops_nil ?_
  refine nx_slots (env' := [(0, _), (1, _), (2, _)]) [0, 1, 2] rfl (fun _ => rfl) ?_
  refine nx_next ?_
  refine at_seq ?_
  refine at_seq ?_
  refine at_region ?_
  refine op_w (p_move (fun _ => rfl)) rfl rfl ?_
  refine op_e (w_callR (vs := [_]) (fun _ => rfl) Tryd.call34 (fun _ => rfl) rfl (check_off _ _ _ _ _ _ _) (by repeat (first | exact Pull.nil _ | (apply Pull.cons; (focus (repeat (first | exact One.here _ _ | apply One.there))))))) (fun _ => rfl) rfl rfl ?_
  rintro _ _ ⟨rfl, rfl⟩
  refine op_w (p_assign (fun _ => rfl)) rfl rfl ?_
  refine ops_nil ?_
  refine nx_slots (env' := [(0, _), (1, _), (2, _), (7, _)]) [0, 1, 2, 7] rfl (fun _ => rfl) ?_
  refine nx_next ?_
  refine at_seq ?_
  refine at_region ?_
  refine op_w (p_move (fun _ => rfl)) rfl rfl ?_
  first | refine op_w (p_neq_nat (n := 0) (fun _ => rfl) (fun _ => rfl)) rfl rfl ?_ | refine op_w (p_neq (fun _ => rfl) (fun _ => rfl)) rfl rfl ?_
  refine ops_nil ?_
  refine nx_slots (env' := [(0, _), (1, _), (2, _), (7, _), (12, _)]) [0, 1, 2, 7, 12] rfl (fun _ => rfl) ?_
  refine nx_next ?_
  first | refine at_if (fun _ => rfl) (fun hc1 => ?_) (fun hc1 => ?_) | refine at_if_bool (fun _ => rfl) (fun hc1 => ?_) (fun hc1 => ?_)
  ·
    refine at_seq ?_
    refine at_region ?_
    refine op_w (p_move (fun _ => rfl)) rfl rfl ?_
    refine op_w (p_assign (fun _ => rfl)) rfl rfl ?_
    refine ops_nil ?_
    refine nx_slots (env' := [(6, _)]) [6] rfl (fun _ => rfl) ?_
    refine nx_next ?_
    refine at_ret ?_
    refine nx_thru (by intro h; cases h) ?_
    refine nx_end1 (H' := _) rfl Tryd.results19 (fun _ => rfl) (by exact ⟨rfl, rfl⟩) ?hp_1
    case hp_1 => repeat (first | exact Sub.refl _ | exact Sub.nil _ | refine Sub.cons (by repeat (first | exact One.here _ _ | apply One.there)) ?_ | refine Sub.drop _ ?_)
  ·
    exact absurd (by decide) hc1

theorem write_spec (left dp bd bv n k : Nat) (pv : Value) (xs : List Value) (sp : List Chunk) (du vi : List UInt8) (hd : du.length = n) (hv : vi.length = n) (hn : n ≤ 4194304) (hr : RowS 2 76 pv k xs sp) (o : Nat) (s : List UInt8) (h : o + s.length ≤ n) (ho : o < n) (hl : left ≤ 4194304) (hk : k ≤ 1000000) : Does Tryd.prog 19 #[.pointer (some ⟨dp, 0, none⟩), .int .i64 (o : Int), .string (str s)] [[(dp, .cells (dkc false left bd bv n pv) 51 (0, 0))], [(bd, .cells (byc du) 5 (0, 0))], [(bv, .cells (byc vi) 5 (0, 0))], sp] (fun r H' => r = .int .i64 0 ∧ ∃ pv' sp', RowS 2 76 pv' (k + 1) (xs ++ [.int .i64 (o : Int), .string (str s)]) sp' ∧ H' = [[(dp, .cells (dkc (usedOff false left) (usedLeft left) bd bv n pv') 51 (0, 0))], [(bd, .cells (byc du) 5 (0, 0))], [(bv, .cells (byc (splice vi o s)) 5 (0, 0))], sp']) := by
  have hml : maxLen = 9223372036854775807 := rfl
  have hss := str_size s
  obtain ⟨b, c, rfl⟩ := hr.form
  refine spec_enter Tryd.func19 rfl Tryd.ntmps19 rfl ?_
  intro u R
  refine at_slots (env' := [(0, _), (1, _), (2, _)]) [0, 1, 2] rfl (fun _ => rfl) ?_
  refine at_seq ?_
  refine at_region ?_
  refine op_w (p_assign (fun _ => rfl)) rfl rfl ?_
  refine ops_nil ?_
  refine nx_slots (env' := [(0, _), (1, _), (2, _)]) [0, 1, 2] rfl (fun _ => rfl) ?_
  refine nx_next ?_
  refine at_seq ?_
  refine at_seq ?_
  refine at_region ?_
  refine op_w (p_move (fun _ => rfl)) rfl rfl ?_
  refine op_e (w_callR (vs := [_]) (fun _ => rfl) Tryd.call34 (fun _ => rfl) rfl (check_on _ _ _ _ _ _ _) (by repeat (first | exact Pull.nil _ | (apply Pull.cons; (focus (repeat (first | exact One.here _ _ | apply One.there))))))) (fun _ => rfl) rfl rfl ?_
  rintro _ _ ⟨rfl, rfl⟩
  refine op_w (p_assign (fun _ => rfl)) rfl rfl ?_
  refine ops_nil ?_
  refine nx_slots (env' := [(0, _), (1, _), (2, _), (7, _)]) [0, 1, 2, 7] rfl (fun _ => rfl) ?_
  refine nx_next ?_
  refine at_seq ?_
  refine at_region ?_
  refine op_w (p_move (fun _ => rfl)) rfl rfl ?_
  first | refine op_w (p_neq_nat (n := 0) (fun _ => rfl) (fun _ => rfl)) rfl rfl ?_ | refine op_w (p_neq (fun _ => rfl) (fun _ => rfl)) rfl rfl ?_
  refine ops_nil ?_
  refine nx_slots (env' := [(0, _), (1, _), (2, _), (7, _), (12, _)]) [0, 1, 2, 7, 12] rfl (fun _ => rfl) ?_
  refine nx_next ?_
  first | refine at_if (fun _ => rfl) (fun hc1 => ?_) (fun hc1 => ?_) | refine at_if_bool (fun _ => rfl) (fun hc1 => ?_) (fun hc1 => ?_)
  ·
    exact absurd rfl hc1
  ·
    refine at_skip ?_
    refine nx_next ?_
    refine at_seq ?_
    refine at_seq ?_
    rw [← hss] at h
    refine at_region ?_
    refine op_w (p_move (fun _ => rfl)) rfl rfl ?_
    refine op_w (p_move (fun _ => rfl)) rfl rfl ?_
    refine op_w (p_move (fun _ => rfl)) rfl rfl ?_
    refine op_w (p_len_str Tryd.underlying9 (fun _ => rfl)) rfl rfl ?_
    refine op_e (w_callR (vs := [_, _, _]) (fun _ => rfl) Tryd.call35 (fun _ => rfl) rfl (inside_yes false o (str s).size _ _ _ _ _ _ _ (by omega) hn) (by repeat (first | exact Pull.nil _ | (apply Pull.cons; (focus (repeat (first | exact One.here _ _ | apply One.there))))))) (fun _ => rfl) rfl rfl ?_
    rintro _ _ ⟨rfl, rfl⟩
    first | refine op_w (p_not_dec (fun _ => rfl)) rfl rfl ?_ | refine op_w (p_not (fun _ => rfl)) rfl rfl ?_
    refine ops_nil ?_
    refine nx_slots (env' := [(0, _), (1, _), (2, _), (19, _)]) [0, 1, 2, 19] rfl (fun _ => rfl) ?_
    refine nx_next ?_
    refine at_if_bool (fun _ => rfl) (fun hc2 => ?_) (fun hc2 => ?_)
    ·
      cases hc2
    ·
      refine at_skip ?_
      refine nx_next ?_
      refine at_seq ?_
      refine at_region ?_
      refine op_w (p_move (fun _ => rfl)) rfl rfl ?_
      refine op_w (p_move (fun _ => rfl)) rfl rfl ?_
      refine op_w (p_build (vs := [(0, _), (1, _)]) (cs := #[_, _]) (fun _ => rfl) (run_build_struct (pl := #[(0, 1), (1, 1)]) Tryd.zeroValue76 Tryd.underlying76 (fun _ => by kernel_rfl) rfl)) rfl rfl ?_
      refine op_e (w_alloc Tryd.zeroValue76 (cs := #[_, _]) rfl) (fun _ => rfl) rfl rfl ?_
      rintro _ _ ⟨b1, rfl, rfl⟩
      refine op_e (w_store_agg Tryd.sizeOf76 (fun _ => rfl) (fun _ => rfl) (by simp [Value.oneCell', Value.cells]) (by repeat (first | exact Upd.here _ | apply Upd.there)) (by exact (rfl : _ = (#[.int .i64 (o : Int), .string (str s)] : Array Value))) (by first | rfl | (simp; done)) (by first | decide | exact Nat.le_refl _ | (simp; done) | (simp; omega)) (by exact free_zero _)) (fun _ => rfl) rfl rfl ?_
      rintro _ _ ⟨rfl, rfl⟩
      refine ops_nil ?_
      refine nx_slots (env' := [(0, _), (8, _)]) [0, 8] rfl (fun _ => rfl) ?_
      refine nx_next ?_
      refine at_seq ?_
      refine at_draw (n := 11) (0 :: 0 :: 2 :: 6 :: 14 :: 0 :: 32 :: 126 :: 255 :: 511 :: 1023 :: []) 1216 (by kernel_rfl) (by kernel_rfl) rfl ?_
      refine lin_w (D' := 1) 0 rfl rfl rfl (p_move (fun _ => rfl)) ?_
      refine lin_w (D' := 3) 1 rfl rfl rfl (p_move (fun _ => rfl)) ?_
      first | refine lin_w (D' := 7) 2 rfl rfl rfl (p_nilCheck (fun _ => rfl)) ?_ | refine lin_w (D' := 7) 2 rfl rfl rfl (p_nilCheck_iface (fun _ => rfl)) ?_
      first | refine lin_w (D' := 15) 3 rfl rfl rfl (p_fieldAddr0 (off := 4) Tryd.underlying51 rfl rfl Tryd.sizeOf49 (fun _ => rfl)) ?_ | refine lin_w (D' := 15) 3 rfl rfl rfl (p_fieldAddr1 (off := 4) Tryd.underlying51 rfl rfl Tryd.sizeOf49 (fun _ => rfl)) ?_
      refine lin_r (D' := 31) 4 rfl rfl rfl (by repeat (first | exact Has.here _ | apply Has.there)) (p_load Tryd.isAgg49 (fun _ => rfl) (by rfl)) ?_
      refine lin_r (D' := 63) 5 rfl rfl rfl (by repeat (first | exact Has.here _ | apply Has.there)) (p_load_agg (cs := #[_, _]) Tryd.isAgg76 Tryd.sizeOf76 (fun _ => rfl) (by first | decide | exact Nat.le_refl _ | (simp; done) | (simp; omega)) (by rfl)) ?_
      refine lin_eff (l := [6]) (by kernel_rfl) (by kernel_rfl) ?_
      refine each_cons (m := 32) (D' := 127) (is := [5, 4]) (bs := [false, true]) (T' := [(4, (_, _))]) rfl rfl rfl rfl (by kernel_rfl) rfl (w_buildSlice (vs := [_]) (cs := [_, _]) Tryd.underlying49 Tryd.sizeOf76 Tryd.zeroValue76 (fun _ => rfl) rfl rfl rfl rfl rfl) ?hk_1 (fun _ _ h => h.elim) ?hl_1
      case hk_1 =>
        rintro _ _ ⟨bw, rfl, rfl⟩
        refine ⟨keep_cons (by repeat (first | exact Has.here _ | apply Has.there)) (keep_nil), ?_⟩
        refine lin_eff (l := [7]) (by kernel_rfl) (by kernel_rfl) ?_
        refine each_cons (m := 126) (D' := 255) (is := [4]) (bs := [false]) (T' := []) rfl rfl rfl rfl (by kernel_rfl) rfl (w_appendS (by_ := 24) (sz := 2) (news := [_, _]) Tryd.underlying49 (rfl : Tryd.prog.info? 76 = some Tryd.t76) rfl rfl rfl rfl (fun _ => rfl) hr (fun _ => rfl) (by repeat (first | exact One.here _ _ | apply One.there)) (by repeat (first | exact Has.here _ | apply Has.there)) (by rfl) rfl (by simp [Value.oneCell']) (by decide) (by omega) (by omega)) ?hk_2 (fun _ _ h => h.elim) ?hl_2
        case hk_2 =>
          rintro _ _ ⟨sq, hrq, rfl⟩
          refine ⟨keep_nil, ?_⟩
          obtain ⟨gq, cq, rfl⟩ := hrq.form
          first | refine lin_w (D' := 511) 8 rfl rfl rfl (p_nilCheck (fun _ => rfl)) ?_ | refine lin_w (D' := 511) 8 rfl rfl rfl (p_nilCheck_iface (fun _ => rfl)) ?_
          first | refine lin_w (D' := 1023) 9 rfl rfl rfl (p_fieldAddr0 (off := 4) Tryd.underlying51 rfl rfl Tryd.sizeOf49 (fun _ => rfl)) ?_ | refine lin_w (D' := 1023) 9 rfl rfl rfl (p_fieldAddr1 (off := 4) Tryd.underlying51 rfl rfl Tryd.sizeOf49 (fun _ => rfl)) ?_
          refine lin_eff (l := [10]) (by kernel_rfl) (by kernel_rfl) ?_
          refine each_cons (m := 1023) (D' := 2047) (is := []) (bs := []) (T' := []) rfl rfl rfl rfl (by kernel_rfl) rfl (w_store Tryd.sizeOf49 (fun _ => rfl) (fun _ => rfl) rfl (by repeat (first | exact Upd.here _ | apply Upd.there)) (by rfl) (by first | decide | exact Nat.le_refl _ | (simp; done) | (simp; omega)) (by exact free_zero _)) ?hk_3 (fun _ _ h => h.elim) ?hl_3
          case hk_3 =>
            rintro _ _ ⟨rfl, rfl⟩
            refine ⟨keep_nil, ?_⟩
            refine lin_nil ?_
            refine nx_slots (env' := [(0, _), (8, _)]) [0, 8] rfl (fun _ => rfl) ?_
            refine nx_next ?_
            refine at_seq ?_
            refine at_draw (n := 6) (0 :: 0 :: 2 :: 6 :: 14 :: 31 :: []) 32 (by kernel_rfl) (by kernel_rfl) rfl ?_
            refine lin_r (D' := 1) 0 rfl rfl rfl (by repeat (first | exact Has.here _ | apply Has.there)) (p_load_agg (cs := #[_, _]) Tryd.isAgg76 Tryd.sizeOf76 (fun _ => rfl) (by first | decide | exact Nat.le_refl _ | (simp; done) | (simp; omega)) (by rfl)) ?_
            refine lin_w (D' := 3) 1 rfl rfl rfl (p_move (fun _ => rfl)) ?_
            first | refine lin_w (D' := 7) 2 rfl rfl rfl (p_nilCheck (fun _ => rfl)) ?_ | refine lin_w (D' := 7) 2 rfl rfl rfl (p_nilCheck_iface (fun _ => rfl)) ?_
            first | refine lin_w (D' := 15) 3 rfl rfl rfl (p_fieldAddr0 (off := 3) Tryd.underlying51 rfl rfl Tryd.sizeOf38 (fun _ => rfl)) ?_ | refine lin_w (D' := 15) 3 rfl rfl rfl (p_fieldAddr1 (off := 3) Tryd.underlying51 rfl rfl Tryd.sizeOf38 (fun _ => rfl)) ?_
            refine lin_r (D' := 31) 4 rfl rfl rfl (by repeat (first | exact Has.here _ | apply Has.there)) (p_load Tryd.isAgg38 (fun _ => rfl) (by rfl)) ?_
            refine lin_eff (l := [5]) (by kernel_rfl) (by kernel_rfl) ?_
            refine each_cons (m := 31) (D' := 63) (is := [4, 0]) (bs := [false, false]) (T' := []) rfl rfl rfl rfl (by kernel_rfl) rfl (w_call (vs := [_, _]) (fun _ => rfl) Tryd.call36 (fun _ => rfl) rfl (onto_spec o n bv s vi _ (by omega) ho hn hv) (by repeat (first | exact Pull.nil _ | (apply Pull.cons; (focus (repeat (first | exact One.here _ _ | apply One.there))))))) ?hk_4 no_pan ?hl_4
            case hk_4 =>
              rintro _ _ ⟨_, ⟨rfl, rfl⟩, rfl⟩
              refine ⟨keep_nil, ?_⟩
              refine lin_nil ?_
              refine nx_slots (env' := [(0, _)]) [0] rfl (fun _ => rfl) ?_
              refine nx_next ?_
              refine at_seq ?_
              refine at_region ?_
              refine op_w (p_move (fun _ => rfl)) rfl rfl ?_
              first | refine op_w (p_nilCheck (fun _ => rfl)) rfl rfl ?_ | refine op_w (p_nilCheck_iface (fun _ => rfl)) rfl rfl ?_
              first | refine op_w (p_fieldAddr0 (off := 0) Tryd.underlying51 rfl rfl Tryd.sizeOf48 (fun _ => rfl)) rfl rfl ?_ | refine op_w (p_fieldAddr1 (off := 0) Tryd.underlying51 rfl rfl Tryd.sizeOf48 (fun _ => rfl)) rfl rfl ?_
              refine ops_eff (fun _ => rfl) (fits_of rfl) rfl (w_call (vs := [_]) (fun _ => rfl) Tryd.call37 (fun _ => rfl) rfl (used_spec _ _ hl _ _ _ _ _ _) (by repeat (first | exact Pull.nil _ | (apply Pull.cons; (focus (repeat (first | exact One.here _ _ | apply One.there))))))) ?_ no_pan
              rintro _ _ ⟨_, ⟨rfl, rfl⟩, rfl⟩
              refine ops_nil ?_
              refine nx_slots (env' := []) [] rfl (fun _ => rfl) ?_
              refine nx_next ?_
              refine at_seq ?_
              refine at_region ?_
              refine op_w (p_assign (fun _ => rfl)) rfl rfl ?_
              refine ops_nil ?_
              refine nx_slots (env' := [(6, _)]) [6] rfl (fun _ => rfl) ?_
              refine nx_next ?_
              refine at_ret ?_
              refine nx_end1 (H' := _) rfl Tryd.results19 (fun _ => rfl) (by exact ⟨rfl, _, sq, hrq, rfl⟩) ?hp_5
              case hp_5 => repeat (first | exact Sub.refl _ | exact Sub.nil _ | refine Sub.cons (by repeat (first | exact One.here _ _ | apply One.there)) ?_ | refine Sub.drop _ ?_)
            case hl_4 =>
              exact each_nil
          case hl_3 =>
            exact each_nil
        case hl_2 =>
          exact each_nil
      case hl_1 =>
        exact each_nil

theorem read_spec (left dp bd bv n : Nat) (pv : Value) (vi : List UInt8) (Td Tv : TypeId) (hv : vi.length = n) (hn : n ≤ 4194304) (o m : Nat) (h : o + m ≤ n) (ho : o < n) : DoesR Tryd.prog 20 #[.pointer (some ⟨dp, 0, none⟩), .int .i64 (o : Int), .int .i64 (m : Int)] [[(dp, .cells (dkc false left bd bv n pv) Td (0, 0))], [(bv, .cells (byc vi) Tv (0, 0))]] (.tuple #[.string (str ((vi.drop o).take m)), .int .i64 0]) := by
  refine spec_enter Tryd.func20 rfl Tryd.ntmps20 rfl ?_
  intro u R
  refine at_slots (env' := [(0, _), (1, _), (2, _)]) [0, 1, 2] rfl (fun _ => rfl) ?_
  refine at_seq ?_
  refine at_region ?_
  refine op_w (p_assign (fun _ => rfl)) rfl rfl ?_
  refine op_w (p_assign (fun _ => rfl)) rfl rfl ?_
  refine ops_nil ?_
  refine nx_slots (env' := [(0, _), (1, _), (2, _)]) [0, 1, 2] rfl (fun _ => rfl) ?_
  refine nx_next ?_
  refine at_seq ?_
  refine at_seq ?_
  refine at_region ?_
  refine op_w (p_move (fun _ => rfl)) rfl rfl ?_
  refine op_e (w_callR (vs := [_]) (fun _ => rfl) Tryd.call34 (fun _ => rfl) rfl (check_on _ _ _ _ _ _ _) (by repeat (first | exact Pull.nil _ | (apply Pull.cons; (focus (repeat (first | exact One.here _ _ | apply One.there))))))) (fun _ => rfl) rfl rfl ?_
  rintro _ _ ⟨rfl, rfl⟩
  refine op_w (p_assign (fun _ => rfl)) rfl rfl ?_
  refine ops_nil ?_
  refine nx_slots (env' := [(0, _), (1, _), (2, _), (8, _)]) [0, 1, 2, 8] rfl (fun _ => rfl) ?_
  refine nx_next ?_
  refine at_seq ?_
  refine at_region ?_
  refine op_w (p_move (fun _ => rfl)) rfl rfl ?_
  first | refine op_w (p_neq_nat (n := 0) (fun _ => rfl) (fun _ => rfl)) rfl rfl ?_ | refine op_w (p_neq (fun _ => rfl) (fun _ => rfl)) rfl rfl ?_
  refine ops_nil ?_
  refine nx_slots (env' := [(0, _), (1, _), (2, _), (8, _), (12, _)]) [0, 1, 2, 8, 12] rfl (fun _ => rfl) ?_
  refine nx_next ?_
  first | refine at_if (fun _ => rfl) (fun hc1 => ?_) (fun hc1 => ?_) | refine at_if_bool (fun _ => rfl) (fun hc1 => ?_) (fun hc1 => ?_)
  ·
    exact absurd rfl hc1
  ·
    refine at_skip ?_
    refine nx_next ?_
    refine at_seq ?_
    refine at_seq ?_
    refine at_region ?_
    refine op_w (p_move (fun _ => rfl)) rfl rfl ?_
    refine op_w (p_move (fun _ => rfl)) rfl rfl ?_
    refine op_w (p_move (fun _ => rfl)) rfl rfl ?_
    refine op_e (w_callR (vs := [_, _, _]) (fun _ => rfl) Tryd.call35 (fun _ => rfl) rfl (inside_yes false o m _ _ _ _ _ _ _ h hn) (by repeat (first | exact Pull.nil _ | (apply Pull.cons; (focus (repeat (first | exact One.here _ _ | apply One.there))))))) (fun _ => rfl) rfl rfl ?_
    rintro _ _ ⟨rfl, rfl⟩
    first | refine op_w (p_not_dec (fun _ => rfl)) rfl rfl ?_ | refine op_w (p_not (fun _ => rfl)) rfl rfl ?_
    refine ops_nil ?_
    refine nx_slots (env' := [(0, _), (1, _), (2, _), (18, _)]) [0, 1, 2, 18] rfl (fun _ => rfl) ?_
    refine nx_next ?_
    refine at_if_bool (fun _ => rfl) (fun hc2 => ?_) (fun hc2 => ?_)
    ·
      cases hc2
    ·
      refine at_skip ?_
      refine nx_next ?_
      refine at_seq ?_
      refine at_region ?_
      refine op_w (p_move (fun _ => rfl)) rfl rfl ?_
      first | refine op_w (p_nilCheck (fun _ => rfl)) rfl rfl ?_ | refine op_w (p_nilCheck_iface (fun _ => rfl)) rfl rfl ?_
      first | refine op_w (p_fieldAddr0 (off := 3) Tryd.underlying51 rfl rfl Tryd.sizeOf38 (fun _ => rfl)) rfl rfl ?_ | refine op_w (p_fieldAddr1 (off := 3) Tryd.underlying51 rfl rfl Tryd.sizeOf38 (fun _ => rfl)) rfl rfl ?_
      refine op_r (by repeat (first | exact Has.here _ | apply Has.there)) (p_load Tryd.isAgg38 (fun _ => rfl) (by rfl)) rfl rfl ?_
      refine op_w (p_move (fun _ => rfl)) rfl rfl ?_
      (refine op_w (p_slice_slice_from1 Tryd.underlying38 Tryd.sizeOf5 (fun _ => rfl) (fun _ => rfl) ?_ ?_) rfl rfl ?_; (focus (omega)); (focus (omega)))
      refine op_w (p_move (fun _ => rfl)) rfl rfl ?_
      (refine op_w (p_slice_slice_to Tryd.underlying38 Tryd.sizeOf5 (fun _ => rfl) (fun _ => rfl) ?_) rfl rfl ?_; (focus (omega)))
      refine op_r (by repeat (first | exact Has.here _ | apply Has.there)) (p_conv_bytes_str Tryd.underlying38 Tryd.underlying5 Tryd.underlying9 (fun _ => rfl) (by exact ⟨by rw [Nat.zero_add, List.map_take, List.map_drop], by rw [List.length_take, List.length_drop]; omega⟩)) rfl rfl ?_
      refine op_w (p_assign (fun _ => rfl)) rfl rfl ?_
      refine op_w (p_assign (fun _ => rfl)) rfl rfl ?_
      refine ops_nil ?_
      refine nx_slots (env' := [(6, _), (7, _)]) [6, 7] rfl (fun _ => rfl) ?_
      refine nx_next ?_
      refine at_ret ?_
      refine nx_end2 (H' := _) rfl Tryd.results20 (fun _ => rfl) (fun _ => rfl) (by exact ⟨rfl, rfl⟩) ?hp_1
      case hp_1 => repeat (first | exact Sub.refl _ | exact Sub.nil _ | refine Sub.cons (by repeat (first | exact One.here _ _ | apply One.there)) ?_ | refine Sub.drop _ ?_)

theorem read_off (left dp bd bv n : Nat) (pv : Value) (Td : TypeId) (o m : Int) : DoesR Tryd.prog 20 #[.pointer (some ⟨dp, 0, none⟩), .int .i64 o, .int .i64 m] [[(dp, .cells (dkc true left bd bv n pv) Td (0, 0))]] (.tuple #[.string (str []), .int .i64 221]) := by
  refine spec_enter Tryd.func20 rfl Tryd.ntmps20 rfl ?_
  intro u R
  refine at_slots (env' := [(0, _), (1, _), (2, _)]) [0, 1, 2] rfl (fun _ => rfl) ?_
  refine at_seq ?_
  refine at_region ?_
  refine op_w (p_assign (fun _ => rfl)) rfl rfl ?_
  refine op_w (p_assign (fun _ => rfl)) rfl rfl ?_
  refine ops_nil ?_
  refine nx_slots (env' := [(0, _), (1, _), (2, _)]) [0, 1, 2] rfl (fun _ => rfl) ?_
  refine nx_next ?_
  refine at_seq ?_
  refine at_seq ?_
  refine at_region ?_
  refine op_w (p_move (fun _ => rfl)) rfl rfl ?_
  refine op_e (w_callR (vs := [_]) (fun _ => rfl) Tryd.call34 (fun _ => rfl) rfl (check_off _ _ _ _ _ _ _) (by repeat (first | exact Pull.nil _ | (apply Pull.cons; (focus (repeat (first | exact One.here _ _ | apply One.there))))))) (fun _ => rfl) rfl rfl ?_
  rintro _ _ ⟨rfl, rfl⟩
  refine op_w (p_assign (fun _ => rfl)) rfl rfl ?_
  refine ops_nil ?_
  refine nx_slots (env' := [(0, _), (1, _), (2, _), (8, _)]) [0, 1, 2, 8] rfl (fun _ => rfl) ?_
  refine nx_next ?_
  refine at_seq ?_
  refine at_region ?_
  refine op_w (p_move (fun _ => rfl)) rfl rfl ?_
  first | refine op_w (p_neq_nat (n := 0) (fun _ => rfl) (fun _ => rfl)) rfl rfl ?_ | refine op_w (p_neq (fun _ => rfl) (fun _ => rfl)) rfl rfl ?_
  refine ops_nil ?_
  refine nx_slots (env' := [(0, _), (1, _), (2, _), (8, _), (12, _)]) [0, 1, 2, 8, 12] rfl (fun _ => rfl) ?_
  refine nx_next ?_
  first | refine at_if (fun _ => rfl) (fun hc1 => ?_) (fun hc1 => ?_) | refine at_if_bool (fun _ => rfl) (fun hc1 => ?_) (fun hc1 => ?_)
  ·
    refine at_seq ?_
    refine at_region ?_
    refine op_w (p_move (fun _ => rfl)) rfl rfl ?_
    refine op_w (p_assign (fun _ => rfl)) rfl rfl ?_
    refine op_w (p_assign (fun _ => rfl)) rfl rfl ?_
    refine ops_nil ?_
    refine nx_slots (env' := [(6, _), (7, _)]) [6, 7] rfl (fun _ => rfl) ?_
    refine nx_next ?_
    refine at_ret ?_
    refine nx_thru (by intro h; cases h) ?_
    refine nx_end2 (H' := _) rfl Tryd.results20 (fun _ => rfl) (fun _ => rfl) (by exact ⟨rfl, rfl⟩) ?hp_1
    case hp_1 => repeat (first | exact Sub.refl _ | exact Sub.nil _ | refine Sub.cons (by repeat (first | exact One.here _ _ | apply One.there)) ?_ | refine Sub.drop _ ?_)
  ·
    exact absurd (by decide) hc1

end Go.Proofs.YtddblcjcodejaaaDoor
