/- The reference of layer 23: Stored, Room, Open. -/
import Derived.Test.YtdahnapibeepkaaGreatDoorRd2
import Derived.Test.YtdahnapibeepkaaGreatDoorRw1
import Derived.Test.YtdahnapibeepkaaGreatDoorRf3
import Derived.Test.YtdahnapibeepkaaGreatDoorOp4
namespace Go.Proofs.YtdahnapibeepkaaGreatDoor
open Go Go.RowKit Gw
set_option linter.unusedVariables false
set_option maxRecDepth 100000
attribute [local irreducible] Gw.At Gw.Nx Gw.Ops
theorem decG_enc (s : List UInt8) (a : Nat) : ∀ (f i z : Nat) (n : Int) (k : Nat), i + f = 9 → z = valB ((s.drop a).take i) → (∀ x ∈ (s.drop a).take i, 128 ≤ x.toNat) → decG s a i z f = some (n, k) → a < k ∧ (s.drop a).take (k - a) = encI n
  | 0, i, z, n, k, hi, hz, hall, h => by cases h
  | f + 1, i, z, n, k, hi, hz, hall, h => by
    rw [decG] at h
    cases hb : s[a + i]? with
    | none => rw [hb] at h; cases h
    | some b =>
      rw [hb] at h
      have hlt := (List.getElem?_eq_some_iff.1 hb).1
      have hti : ((s.drop a).take i).length = i := by rw [List.length_take, List.length_drop]; omega
      have hz2 : z + b.toNat % 128 * 2 ^ (7 * i) = valB ((s.drop a).take (i + 1)) := by rw [take_more s a i b hb, valB_append, ← hz, hti]
      simp only at h
      split at h
      · rename_i h128
        exact decG_enc s a f (i + 1) _ n k (by omega) hz2 (by
          rw [take_more s a i b hb]; intro x hx
          rcases List.mem_append.1 hx with h9 | h9
          · exact hall x h9
          · rw [List.mem_singleton.1 h9]; exact h128) h
      · rename_i h128
        split at h
        · cases h
        · rename_i hno
          injection h with h
          injection h with h1 h2
          subst h1 h2
          refine ⟨by omega, ?_⟩
          rw [show a + i + 1 - a = i + 1 by omega, hz2]
          unfold encI
          rw [zz_uz, take_more s a i b hb, enc_val _ _ hall (by omega)]
          rcases Nat.eq_zero_or_pos i with h3 | h3
          · exact .inl (List.eq_nil_of_length_eq_zero (by omega))
          · exact .inr (fun h4 => hno (.inl ⟨h4, h3⟩))
theorem decS_enc_eq {s : List UInt8} {a : Nat} {r : List UInt8} {k : Nat} (h : decS s a = some (r, k)) : a < k ∧ (s.drop a).take (k - a) = encS r := by
  unfold decS at h
  cases hd : decI s a with
  | none => rw [hd] at h; cases h
  | some p =>
    obtain ⟨n, j⟩ := p
    rw [hd] at h
    obtain ⟨h1, h2⟩ := decG_enc s a 9 0 0 n j rfl (by simp [valB]) (by simp) hd
    have hat := decI_at hd
    simp only at h
    split at h
    · cases h
    · rename_i hno
      injection h with h
      injection h with h3 h4
      obtain ⟨m, rfl⟩ := Int.eq_ofNat_of_zero_le (show 0 ≤ n by omega)
      rw [Int.toNat_natCast] at h3 h4
      have hlen : r.length = m := by rw [← h3, List.length_take, List.length_drop]; omega
      refine ⟨by omega, ?_⟩
      unfold encS
      rw [hlen, ← h2, ← h4, show j + m - a = (j - a) + m by omega, List.take_add, List.drop_drop, show a + (j - a) = j by omega, h3]
/-- The stored record is the one that belongs there exactly if its chain is. -/
theorem stored_eq {s : List UInt8} {sz : Nat} {r : List UInt8} {k : Nat} (h : List UInt8) (hd : decS s (sz + 1) = some (r, k)) (h1 : s[sz]? = some 1) (hk : k + 32 ≤ s.length) :
    (recS h r = (s.drop sz).take (k + 32 - sz) ↔ (s.drop k).take 32 = chainS h r) ∧ sz + (recS h r).length = k + 32 := by
  obtain ⟨ha, he⟩ := decS_enc_eq hd
  have hlt := (List.getElem?_eq_some_iff.1 h1).1
  have e1 : (s.drop sz).take (k + 32 - sz) = [1] ++ encS r ++ (s.drop k).take 32 := by
    rw [show k + 32 - sz = 1 + (k - (sz + 1)) + 32 by omega, List.take_add, List.take_add, List.drop_drop, List.drop_drop, show sz + (1 + (k - (sz + 1))) = k by omega, he]
    congr 2
    rw [List.take_add_one, List.take_zero, List.getElem?_drop, Nat.add_zero, h1]; rfl
  have e2 : recS h r = [1] ++ encS r ++ chainS h r := by simp [recS]
  constructor
  · rw [e1, e2]
    constructor
    · intro h9; exact (List.append_cancel_left h9).symm
    · intro h9; rw [h9]
  · rw [e2, List.length_append, List.length_append]
    have h5 : (chainS h r).length = 32 := chain_len _ _
    have h6 := congrArg List.length he
    rw [List.length_take, List.length_drop] at h6
    simp only [List.length_cons, List.length_nil]
    omega
/-- A journal of the reference. -/
def KrR (j : JrS) (kp rp : Nat) (s : List Chunk) : Prop := j.h = headL zero32 j.rs ∧ j.rs.length ≤ 4194304 ∧ (∀ r ∈ j.rs, r.length ≤ 65536) ∧ ∃ v sr, Row 9 v (j.rs.map strV) sr ∧
  s = (kp, .cells #[.pointer (some ⟨rp, 0, none⟩), v, .int .i64 (j.sz : Int), .bool j.br] 43 (0, 0)) :: sr

theorem rstored_spec (h r : List UInt8) (hh : h.length = 32) (hr : r.length ≤ 65536) : DoesR Tryz.prog 43 #[.string (str h), .string (str r)] [] (.tuple #[.string (str (recS h r)), .string (str (chainS h r))]) := by
 have e1 : (⟨#[1]⟩ : ByteArray) = str [1] := rfl
 have hel := encI_len r.length (by omega) (by omega)
 have hes : (encS r).length ≤ 9 + 65536 := by unfold encS; rw [List.length_append]; omega
 have hcl : (chainS h r).length = 32 := chain_len _ _
 refine spec_enter Tryz.func43 rfl Tryz.ntmps43 rfl ?_
 intro u R
 refine at_slots (env' := [(0, _), (1, _)]) [0, 1] rfl (fun _=>rfl) ?_
 refine at_seq ?_
 refine at_region ?_
 refine op_v (p_assign (fun _=>rfl)) ?_
 refine op_v (p_assign (fun _=>rfl)) ?_
 refine ops_nil ?_
 refine nx_slots (env' := [(0, _), (1, _)]) [0, 1] rfl (fun _=>rfl) ?_
 refine nx_next ?_
 refine at_seq ?_
 refine at_region ?_
 refine op_v (p_move (fun _=>rfl)) ?_
 refine op_v (p_move (fun _=>rfl)) ?_
 refine op_e (w_callR (vs := [_, _]) (fun _=>rfl) Tryz.call73 (fun _=>rfl) rfl (rchain_spec h r (by omega)) (by repeat (first | exact Pull.nil _ | (apply Pull.cons; (focus (repeat (first | exact One.here _ _ | apply One.there))))))) (fun _=>rfl) rfl rfl ?_
 rintro _ _ ⟨rfl, rfl⟩
 refine op_v (p_assign (fun _=>rfl)) ?_
 refine ops_nil ?_
 refine nx_slots (env' := [(1, _), (6, _)]) [1, 6] rfl (fun _=>rfl) ?_
 refine nx_next ?_
 refine at_seq ?_
 refine at_region ?_
 refine op_v (p_move (fun _=>rfl)) ?_
 refine op_e (w_callR (vs := [_]) (fun _=>rfl) Tryz.call74 (fun _=>rfl) rfl (rputString_spec r hr) (by repeat (first | exact Pull.nil _ | (apply Pull.cons; (focus (repeat (first | exact One.here _ _ | apply One.there))))))) (fun _=>rfl) rfl rfl ?_
 rintro _ _ ⟨rfl, rfl⟩
 refine op_v (p_move (fun _=>rfl)) ?_
 refine op_v (p_extract (fun _=>rfl) rfl) ?_
 refine op_v (p_extract (fun _=>rfl) rfl) ?_
 refine op_v (p_assign (fun _=>rfl)) ?_
 refine op_v (p_assign (fun _=>rfl)) ?_
 refine ops_nil ?_
 refine nx_slots (env' := [(6, _), (7, _)]) [6, 7] rfl (fun _=>rfl) ?_
 refine nx_next ?_
 refine at_seq ?_
 refine at_region ?_
 refine op_v (p_move (fun _=>rfl)) ?_
 (refine op_v (p_add_str (fun _=>rfl) (fun _=>rfl) ?_) ?_; (focus (rw [e1, str_size, str_size]; simp; omega)))
 refine op_v (p_move (fun _=>rfl)) ?_
 (refine op_v (p_add_str (fun _=>rfl) (fun _=>rfl) ?_) ?_; (focus (rw [e1, str_app, str_size, str_size]; simp; omega)))
 refine op_v (p_move (fun _=>rfl)) ?_
 refine op_v (p_assign (fun _=>rfl)) ?_
 refine op_v (p_assign (fun _=>rfl)) ?_
 refine ops_nil ?_
 refine nx_slots (env' := [(4, _), (5, _)]) [4, 5] rfl (fun _=>rfl) ?_
 refine nx_next ?_
 refine at_ret ?_
 refine nx_end2 (H' := _) rfl Tryz.results43 (fun _=>rfl) (fun _=>rfl) (by exact ⟨by rw [e1, str_app, str_app]; simp [recS], rfl⟩) ?hp_1
 case hp_1 => repeat (first | exact Sub.refl _ | exact Sub.nil _ | (apply Sub.cons; (focus (repeat (first | exact One.here _ _ | apply One.there)))) | refine Sub.drop _ ?_)

theorem rroom_spec (kp rp sz : Nat) (v lv dv pv ov bv : Value) (b0 : Option Addr) (n c0 : Nat) (hz : sz ≤ 4194304) (hn : n ≤ 4194304) : DoesR Tryz.prog 19 #[.pointer (some ⟨kp, 0, none⟩)] [[(kp, .cells #[.pointer (some ⟨rp, 0, none⟩), v, .int .i64 (sz : Int), bv] 43 (0, 0))], [(rp, .cells #[.slice b0 n c0, pv, ov, lv] 77 (0, 0))]] (.int .i64 ((n : Int) - (sz : Int))) := by
 refine spec_enter Tryz.func19 rfl Tryz.ntmps19 rfl ?_
 intro u R
 refine at_slots (env' := [(0, _)]) [0] rfl (fun _=>rfl) ?_
 refine at_seq ?_
 refine at_region ?_
 refine op_v (p_assign (fun _=>rfl)) ?_
 refine ops_nil ?_
 refine nx_slots (env' := [(0, _)]) [0] rfl (fun _=>rfl) ?_
 refine nx_next ?_
 refine at_seq ?_
 refine at_draw (n := 14) (0 :: 1 :: 3 :: 7 :: 15 :: 31 :: 63 :: 127 :: 0 :: 256 :: 768 :: 1792 :: 4095 :: 8191 :: []) 0 (by kernel_rfl) (by kernel_rfl) rfl ?_
 refine lin_w (D' := 1) 0 rfl rfl rfl (p_move (fun _=>rfl)) ?_
 refine lin_w (D' := 3) 1 rfl rfl rfl (p_nilChk (fun _=>rfl) rfl) ?_
 first | refine lin_w (D' := 7) 2 rfl rfl rfl (p_fieldAddr0 (off := 0) Tryz.underlying43 rfl rfl Tryz.sizeOf29 (fun _=>rfl)) ?_ | refine lin_w (D' := 7) 2 rfl rfl rfl (p_fieldAddr1 (off := 0) Tryz.underlying43 rfl rfl Tryz.sizeOf29 (fun _=>rfl)) ?_
 refine lin_r (D' := 15) 3 rfl rfl rfl (by repeat (first | exact Has.here _ | apply Has.there)) (p_load Tryz.isAgg29 (fun _=>rfl) (by rfl)) ?_
 refine lin_w (D' := 31) 4 rfl rfl rfl (p_nilChk (fun _=>rfl) rfl) ?_
 first | refine lin_w (D' := 63) 5 rfl rfl rfl (p_fieldAddr0 (off := 0) Tryz.underlying77 rfl rfl Tryz.sizeOf39 (fun _=>rfl)) ?_ | refine lin_w (D' := 63) 5 rfl rfl rfl (p_fieldAddr1 (off := 0) Tryz.underlying77 rfl rfl Tryz.sizeOf39 (fun _=>rfl)) ?_
 refine lin_r (D' := 127) 6 rfl rfl rfl (by repeat (first | exact Has.here _ | apply Has.there)) (p_load Tryz.isAgg39 (fun _=>rfl) (by rfl)) ?_
 refine lin_w (D' := 255) 7 rfl rfl rfl (p_len_slice Tryz.underlying39 (fun _=>rfl)) ?_
 refine lin_w (D' := 511) 8 rfl rfl rfl (p_move (fun _=>rfl)) ?_
 refine lin_w (D' := 1023) 9 rfl rfl rfl (p_nilChk (fun _=>rfl) rfl) ?_
 first | refine lin_w (D' := 2047) 10 rfl rfl rfl (p_fieldAddr0 (off := 2) Tryz.underlying43 rfl rfl Tryz.sizeOf3 (fun _=>rfl)) ?_ | refine lin_w (D' := 2047) 10 rfl rfl rfl (p_fieldAddr1 (off := 2) Tryz.underlying43 rfl rfl Tryz.sizeOf3 (fun _=>rfl)) ?_
 refine lin_r (D' := 4095) 11 rfl rfl rfl (by repeat (first | exact Has.here _ | apply Has.there)) (p_load Tryz.isAgg3 (fun _=>rfl) (by rfl)) ?_
 refine lin_w (D' := 8191) 12 rfl rfl rfl (p_sub (fun _=>rfl) (fun _=>rfl) (IntWalk.i64_in _ (by omega))) ?_
 refine lin_w (D' := 16383) 13 rfl rfl rfl (p_assign (fun _=>rfl)) ?_
 refine lin_nil ?_
 refine nx_slots (env' := [(2, _)]) [2] rfl (fun _=>rfl) ?_
 refine nx_next ?_
 refine at_ret ?_
 refine nx_end1 (H' := _) rfl Tryz.results19 (fun _=>rfl) (by exact ⟨rfl, rfl⟩) ?hp_1
 case hp_1 => repeat (first | exact Sub.refl _ | exact Sub.nil _ | (apply Sub.cons; (focus (repeat (first | exact One.here _ _ | apply One.there)))) | refine Sub.drop _ ?_)

theorem ropen_on (rp : Nat) (d : DiskS) (sd : List Chunk) (hR : RdR d rp sd) (hoff : d.off = false) (hk : d.pend.length ≤ 999990) : Does Tryz.prog 49 #[.pointer (some ⟨rp, 0, none⟩)] [sd]
      (fun r H' => (loadL d.vi (d.vi.length + 1) [] zero32 0 = none ∧ r = .tuple #[.pointer none, .int .i64 232] ∧ H' = [sd]) ∨
        (∃ rs h sz v sr kp, loadL d.vi (d.vi.length + 1) [] zero32 0 = some (rs, h, sz) ∧ h = headL zero32 rs ∧ sz ≤ d.vi.length ∧ rs.length ≤ sz ∧ (∀ r ∈ rs, r.length ≤ 65536) ∧ Row 9 v (rs.map strV) sr ∧
          ((d.vi.drop sz = List.replicate (d.vi.length - sz) 0 ∧ r = .tuple #[.pointer (some ⟨kp, 0, none⟩), .int .i64 0] ∧ H' = [[(kp, .cells #[.pointer (some ⟨rp, 0, none⟩), v, .int .i64 (sz : Int), .bool false] 43 (0, 0))], sr, sd]) ∨
           (d.vi.drop sz ≠ List.replicate (d.vi.length - sz) 0 ∧ ∃ sd', RdR (d.zero sz).2 rp sd' ∧ (((d.zero sz).1 = 0 ∧ r = .tuple #[.pointer (some ⟨kp, 0, none⟩), .int .i64 0] ∧ H' = [[(kp, .cells #[.pointer (some ⟨rp, 0, none⟩), v, .int .i64 (sz : Int), .bool false] 43 (0, 0))], sr, sd']) ∨ ((d.zero sz).1 ≠ 0 ∧ r = .tuple #[.pointer none, .int .i64 (d.zero sz).1] ∧ H' = [sd'])))))) := by
 obtain ⟨hok, hco, v0, pv0, sv0, sp0, hr0, hp0, hs0⟩ := id hR
 obtain ⟨b0, c0, hv0⟩ := hr0.form
 rw [List.length_map] at hv0
 subst hv0
 have hvi : d.vi.length ≤ 4194304 := hok.2.2.1
 have hss := str_size d.vi
 obtain ⟨res, hres⟩ : ∃ res, res = loadL d.vi (d.vi.length + 1) [] zero32 0 := ⟨_, rfl⟩
 rw [← hres]
 have hml : maxLen = 9223372036854775807 := rfl
 refine spec_enter Tryz.func49 rfl Tryz.ntmps49 rfl ?_
 intro u R
 refine at_slots (env' := [(0, _)]) [0] rfl (fun _=>rfl) ?_
 refine at_seq ?_
 refine at_region ?_
 refine op_v (p_assign (fun _=>rfl)) ?_
 refine op_v (p_assign (fun _=>rfl)) ?_
 refine ops_nil ?_
 refine nx_slots (env' := [(0, _)]) [0] rfl (fun _=>rfl) ?_
 refine nx_next ?_
 refine at_seq ?_
 try rw [hok.1]
 refine at_region ?_
 refine op_v (p_move (fun _=>rfl)) ?_
 refine op_v (p_nilChk (fun _=>rfl) rfl) ?_
 first | refine op_v (p_fieldAddr0 (off := 0) Tryz.underlying77 rfl rfl Tryz.sizeOf39 (fun _=>rfl)) ?_ | refine op_v (p_fieldAddr1 (off := 0) Tryz.underlying77 rfl rfl Tryz.sizeOf39 (fun _=>rfl)) ?_
 refine op_rm (cs := [(rp, .cells #[.slice b0 d.du.length c0, pv0, .bool d.off, .int .i64 (d.left : Int)] 77 (0, 0))]) (by simp [hs0]) (p_load Tryz.isAgg39 (fun _=>rfl) rfl) rfl rfl ?_
 refine op_v (p_len_slice Tryz.underlying39 (fun _=>rfl)) ?_
 refine op_v (p_assign (fun _=>rfl)) ?_
 refine ops_nil ?_
 refine nx_slots (env' := [(0, _), (4, _)]) [0, 4] rfl (fun _=>rfl) ?_
 refine nx_next ?_
 refine at_seq ?_
 rw [hok.1]
 refine at_region ?_
 refine op_v (p_move (fun _=>rfl)) ?_
 refine op_v (p_move (fun _=>rfl)) ?_
 refine op_e (w_callR (vs := [_, _, _]) (fun _=>rfl) Tryz.call75 (fun _=>rfl) rfl ((by have h := rd_read d rp sd hR 0 d.vi.length (by omega) (by have := hok.2.1; omega) (by omega); rw [hoff] at h; simp only [Bool.false_eq_true, if_false, List.drop_zero, List.take_length] at h; exact h : DoesR Tryz.prog 75 #[.pointer (some ⟨rp, 0, none⟩), .int .i64 ((0 : Nat) : Int), .int .i64 (d.vi.length : Int)] [sd] (.tuple #[.string (str d.vi), .int .i64 0]))) (by repeat (first | exact Pull.nil _ | (apply Pull.cons; (focus (repeat (first | exact One.here _ _ | apply One.there))))))) (fun _=>rfl) rfl rfl ?_
 rintro _ _ ⟨rfl, rfl⟩
 refine op_v (p_move (fun _=>rfl)) ?_
 refine op_v (p_extract (fun _=>rfl) rfl) ?_
 refine op_v (p_extract (fun _=>rfl) rfl) ?_
 refine op_v (p_assign (fun _=>rfl)) ?_
 refine op_v (p_assign (fun _=>rfl)) ?_
 refine ops_nil ?_
 refine nx_slots (env' := [(0, _), (4, _), (5, _), (6, _)]) [0, 4, 5, 6] rfl (fun _=>rfl) ?_
 refine nx_next ?_
 refine at_seq ?_
 refine at_seq ?_
 refine at_region ?_
 refine op_v (p_move (fun _=>rfl)) ?_
 first | refine op_v (p_neq_nat (n := 0) (fun _=>rfl) (fun _=>rfl)) ?_ | refine op_v (p_neq (fun _=>rfl) (fun _=>rfl)) ?_
 refine ops_nil ?_
 refine nx_slots (env' := [(0, _), (4, _), (5, _), (6, _), (25, _)]) [0, 4, 5, 6, 25] rfl (fun _=>rfl) ?_
 refine nx_next ?_
 first | refine at_if (fun _=>rfl) (fun hc1 => ?_) (fun hc1 => ?_) | refine at_if_bool (fun _=>rfl) (fun hc1 => ?_) (fun hc1 => ?_)
 ·
  exact absurd rfl hc1
 ·
  refine at_skip ?_
  refine nx_next ?_
  refine at_seq ?_
  refine at_region ?_
  refine op_v (p_move (fun _=>rfl)) ?_
  refine op_v (p_build (vs := [(0, _)]) (cs := #[_, _, _, _]) (fun _=>rfl) (run_build_struct (pl := #[(0, 1), (1, 1), (2, 1), (3, 1)]) Tryz.zeroValue43 Tryz.underlying43 (fun _ => by kernel_rfl) rfl)) ?_
  refine op_e (w_box (fun _=>rfl) (cs := #[_, _, _, _]) rfl) (fun _=>rfl) rfl rfl ?_
  rintro _ _ ⟨kp, rfl, rfl⟩
  refine op_v (p_assign (fun _=>rfl)) ?_
  refine ops_nil ?_
  refine nx_slots (env' := [(0, _), (4, _), (5, _), (7, _)]) [0, 4, 5, 7] rfl (fun _=>rfl) ?_
  refine nx_next ?_
  refine at_seq ?_
  refine at_nil ?_
  refine at_region ?_
  refine op_e (w_callR (vs := [_]) (fun _=>rfl) Tryz.call42 (fun _=>rfl) rfl (rhead_spec (ls := []) (row_nil _) (by decide) (by simp)) (by repeat (first | exact Pull.nil _ | (apply Pull.cons; (focus (repeat (first | exact One.here _ _ | apply One.there))))))) (fun _=>rfl) rfl rfl ?_
  rintro _ _ ⟨rfl, rfl⟩
  refine op_v (p_assign (fun _=>rfl)) ?_
  refine ops_nil ?_
  refine nx_slots (env' := [(0, _), (4, _), (5, _), (7, _), (8, _)]) [0, 4, 5, 7, 8] rfl (fun _=>rfl) ?_
  refine nx_next ?_
  refine at_seq ?_
  refine at_block ?_
  refine at_nil ?_
  refine at_slots (env' := [(8, _), (0, _), (4, _), (5, _), (7, _)]) [8, 0, 4, 5, 7] rfl (fun _=>rfl) ?_
  refine at_loopB (e0 := [(8, _)]) (H0 := _) (n := _) (fun m e H => ∃ (f : Nat) (rs : List (List UInt8)) (h : List UInt8) (sz : Nat) (v : Value) (sr : List Chunk), m = 0 + f ∧ (d.vi.length - sz < f ∧ sz ≤ d.vi.length ∧ h = headL zero32 rs ∧ rs.length ≤ sz ∧ (∀ r ∈ rs, r.length ≤ 65536) ∧ Row 9 v (rs.map strV) sr ∧ loadL d.vi f rs h sz = res) ∧ e = [(8, .string (str h))] ∧ H = [[(kp, .cells #[.pointer (some ⟨rp, 0, none⟩), v, .int .i64 (sz : Int), .bool false] 43 (0, 0))], sr]) (by exact ⟨d.vi.length + 1, [], zero32, 0, _, [], rfl, ⟨by omega, Nat.zero_le _, rfl, Nat.zero_le _, by simp, row_nil _, hres.symm⟩, rfl, rfl⟩) (by repeat (first | exact Pull.nil _ | (apply Pull.cons; (focus (repeat (first | exact One.here _ _ | apply One.there)))))) ?_
  rintro _ _ _ ⟨f, rs, h, sz, v, sr, rfl, ⟨hf, hz, hh, hn, hsh, hrow, hinv⟩, rfl, rfl⟩
  obtain ⟨gv, cv, rfl⟩ := hrow.form
  have h32 : h.length = 32 := by rw [hh]; exact headL_len rs zero32 rfl
  refine at_seq ?_
  refine at_seq ?_
  refine at_region ?_
  refine op_v (p_move (fun _=>rfl)) ?_
  refine op_v (p_nilChk (fun _=>rfl) rfl) ?_
  first | refine op_v (p_fieldAddr0 (off := 2) Tryz.underlying43 rfl rfl Tryz.sizeOf3 (fun _=>rfl)) ?_ | refine op_v (p_fieldAddr1 (off := 2) Tryz.underlying43 rfl rfl Tryz.sizeOf3 (fun _=>rfl)) ?_
  refine op_r (by repeat (first | exact Has.here _ | apply Has.there)) (p_load Tryz.isAgg3 (fun _=>rfl) (by rfl)) rfl rfl ?_
  refine op_v (p_move (fun _=>rfl)) ?_
  first | refine op_v (p_lss_nat (fun _=>rfl) (fun _=>rfl)) ?_ | refine op_v (p_lss (fun _=>rfl) (fun _=>rfl)) ?_
  refine op_v (p_move (fun _=>rfl)) ?_
  first | refine ops_split (t := 37) (fun _=>rfl) rfl (fun hlt => ?_) (fun hlt => ?_) | refine ops_split_bool (t := 37) (fun _=>rfl) rfl (fun hlt => ?_) (fun hlt => ?_)
  ·
   refine op_wg (fun _=>rfl) (p_move (fun _=>rfl)) rfl rfl ?_
   refine op_wg (fun _=>rfl) (p_move (fun _=>rfl)) rfl rfl ?_
   refine op_wg (fun _=>rfl) (p_nilChk (fun _=>rfl) rfl) rfl rfl ?_
   first | refine op_wg (fun _=>rfl) (p_fieldAddr0 (off := 2) Tryz.underlying43 rfl rfl Tryz.sizeOf3 (fun _=>rfl)) rfl rfl ?_ | refine op_wg (fun _=>rfl) (p_fieldAddr1 (off := 2) Tryz.underlying43 rfl rfl Tryz.sizeOf3 (fun _=>rfl)) rfl rfl ?_
   refine op_rg (fun _=>rfl) (by repeat (first | exact Has.here _ | apply Has.there)) (p_load Tryz.isAgg3 (fun _=>rfl) (by rfl)) rfl rfl ?_
   (refine op_wg (fun _=>rfl) (p_index_str Tryz.underlying9 (fun _=>rfl) (fun _=>rfl) (byteAt_get _ _ ?_)) rfl rfl ?_; (focus (omega)))
   first | refine op_wg (fun _=>rfl) (p_neq_nat (n := 0) (fun _=>rfl) (fun _=>rfl)) rfl rfl ?_ | refine op_wg (fun _=>rfl) (p_neq (fun _=>rfl) (fun _=>rfl)) rfl rfl ?_
   refine op_v (p_pick_t (fun _=>rfl) (fun _=>rfl)) ?_
   refine ops_nil ?_
   refine nx_slots (env' := [(0, _), (4, _), (5, _), (7, _), (8, _), (45, _)]) [0, 4, 5, 7, 8, 45] rfl (fun _=>rfl) ?_
   refine nx_next ?_
   first | refine at_if (fun _=>rfl) (fun hb0 => ?_) (fun hb0 => ?_) | refine at_if_bool (fun _=>rfl) (fun hb0 => ?_) (fun hb0 => ?_)
   ·
    refine at_skip ?_
    refine nx_next ?_
    refine at_block ?_
    refine at_seq ?_
    obtain ⟨r, k, e, hRe, hRc⟩ := strR_cases d.vi (sz + 1)
    have hstr := rstring_spec d.vi (sz + 1) (by omega) (by omega)
    rw [hRe] at hstr
    refine at_region ?_
    refine op_v (p_move (fun _=>rfl)) ?_
    refine op_v (p_move (fun _=>rfl)) ?_
    refine op_v (p_nilChk (fun _=>rfl) rfl) ?_
    first | refine op_v (p_fieldAddr0 (off := 2) Tryz.underlying43 rfl rfl Tryz.sizeOf3 (fun _=>rfl)) ?_ | refine op_v (p_fieldAddr1 (off := 2) Tryz.underlying43 rfl rfl Tryz.sizeOf3 (fun _=>rfl)) ?_
    refine op_r (by repeat (first | exact Has.here _ | apply Has.there)) (p_load Tryz.isAgg3 (fun _=>rfl) (by rfl)) rfl rfl ?_
    first | (refine op_v (p_add_nat (n := 1) (fun _=>rfl) (fun _=>rfl) ?_) ?_; (focus (omega))) | (refine op_v (p_add (fun _=>rfl) (fun _=>rfl) (IntWalk.i64_in _ ?_)) ?_; (focus (omega)))
    refine op_e (w_callR (vs := [_, _]) (fun _=>rfl) Tryz.call76 (fun _=>rfl) rfl (hstr) (by repeat (first | exact Pull.nil _ | (apply Pull.cons; (focus (repeat (first | exact One.here _ _ | apply One.there))))))) (fun _=>rfl) rfl rfl ?_
    rintro _ _ ⟨rfl, rfl⟩
    refine op_v (p_move (fun _=>rfl)) ?_
    refine op_v (p_extract (fun _=>rfl) rfl) ?_
    refine op_v (p_extract (fun _=>rfl) rfl) ?_
    refine op_v (p_extract (fun _=>rfl) rfl) ?_
    refine op_v (p_assign (fun _=>rfl)) ?_
    refine op_v (p_assign (fun _=>rfl)) ?_
    refine op_v (p_assign (fun _=>rfl)) ?_
    refine ops_nil ?_
    refine nx_slots (env' := [(0, _), (4, _), (5, _), (7, _), (8, _), (9, _), (10, _), (11, _)]) [0, 4, 5, 7, 8, 9, 10, 11] rfl (fun _=>rfl) ?_
    refine nx_next ?_
    refine at_seq ?_
    refine at_seq ?_
    refine at_region ?_
    refine op_v (p_move (fun _=>rfl)) ?_
    refine op_v (p_move (fun _=>rfl)) ?_
    refine op_v (p_nilChk (fun _=>rfl) rfl) ?_
    first | refine op_v (p_fieldAddr0 (off := 2) Tryz.underlying43 rfl rfl Tryz.sizeOf3 (fun _=>rfl)) ?_ | refine op_v (p_fieldAddr1 (off := 2) Tryz.underlying43 rfl rfl Tryz.sizeOf3 (fun _=>rfl)) ?_
    refine op_r (by repeat (first | exact Has.here _ | apply Has.there)) (p_load Tryz.isAgg3 (fun _=>rfl) (by rfl)) rfl rfl ?_
    (refine op_v (p_index_str Tryz.underlying9 (fun _=>rfl) (fun _=>rfl) (byteAt_get _ _ ?_)) ?_; (focus (omega)))
    first | refine op_v (p_neq_nat (n := 1) (fun _=>rfl) (fun _=>rfl)) ?_ | refine op_v (p_neq (fun _=>rfl) (fun _=>rfl)) ?_
    refine op_v (p_move (fun _=>rfl)) ?_
    first | refine ops_split (t := 64) (fun _=>rfl) rfl (fun hb1 => ?_) (fun hb1 => ?_) | refine ops_split_bool (t := 64) (fun _=>rfl) rfl (fun hb1 => ?_) (fun hb1 => ?_)
    ·
     refine op_skip (fun _=>rfl) rfl ?_
     refine op_skip (fun _=>rfl) rfl ?_
     refine op_v (p_pick_t (fun _=>rfl) (fun _=>rfl)) ?_
     refine ops_nil ?_
     refine nx_slots (env' := [(0, _), (4, _), (5, _), (7, _), (8, _), (9, _), (10, _), (67, _)]) [0, 4, 5, 7, 8, 9, 10, 67] rfl (fun _=>rfl) ?_
     refine nx_next ?_
     refine at_then (fun _=>rfl) ?_
     refine at_seq ?_
     refine at_region ?_
     refine op_v (p_assign (fun _=>rfl)) ?_
     refine op_v (p_assign (fun _=>rfl)) ?_
     refine ops_nil ?_
     refine nx_slots (env' := [(2, _), (3, _)]) [2, 3] rfl (fun _=>rfl) ?_
     refine nx_next ?_
     refine at_ret ?_
     refine nx_thru (by intro h; cases h) ?_
     refine nx_block_ret ?_
     refine nx_thru (by intro h; cases h) ?_
     refine nx_block_ret ?_
     refine nx_thru (by intro h; cases h) ?_
     refine nx_end2 (H' := _) rfl Tryz.results49 (fun _=>rfl) (fun _=>rfl) (by exact .inl ⟨by first | exact load_bad1 hinv hf (by omega) (by omega) (by omega) | exact load_bad2 hinv hf (by omega) (by omega) (by omega) (hRc.resolve_left (fun h => he h.1)).2.1, rfl, rfl⟩) ?hp_2
     case hp_2 => repeat (first | exact Sub.refl _ | exact Sub.nil _ | (apply Sub.cons; (focus (repeat (first | exact One.here _ _ | apply One.there)))) | refine Sub.drop _ ?_)
    ·
     refine op_wg (fun _=>rfl) (p_move (fun _=>rfl)) rfl rfl ?_
     first | refine op_wg (fun _=>rfl) (p_neq_nat (n := 0) (fun _=>rfl) (fun _=>rfl)) rfl rfl ?_ | refine op_wg (fun _=>rfl) (p_neq (fun _=>rfl) (fun _=>rfl)) rfl rfl ?_
     refine op_v (p_pick_f (fun _=>rfl) (fun _=>rfl)) ?_
     refine ops_nil ?_
     refine nx_slots (env' := [(0, _), (4, _), (5, _), (7, _), (8, _), (9, _), (10, _), (67, _)]) [0, 4, 5, 7, 8, 9, 10, 67] rfl (fun _=>rfl) ?_
     refine nx_next ?_
     first | refine at_if (fun _=>rfl) (fun he => ?_) (fun he => ?_) | refine at_if_bool (fun _=>rfl) (fun he => ?_) (fun he => ?_)
     ·
      refine at_seq ?_
      refine at_region ?_
      refine op_v (p_assign (fun _=>rfl)) ?_
      refine op_v (p_assign (fun _=>rfl)) ?_
      refine ops_nil ?_
      refine nx_slots (env' := [(2, _), (3, _)]) [2, 3] rfl (fun _=>rfl) ?_
      refine nx_next ?_
      refine at_ret ?_
      refine nx_thru (by intro h; cases h) ?_
      refine nx_block_ret ?_
      refine nx_thru (by intro h; cases h) ?_
      refine nx_block_ret ?_
      refine nx_thru (by intro h; cases h) ?_
      refine nx_end2 (H' := _) rfl Tryz.results49 (fun _=>rfl) (fun _=>rfl) (by exact .inl ⟨by first | exact load_bad1 hinv hf (by omega) (by omega) (by omega) | exact load_bad2 hinv hf (by omega) (by omega) (by omega) (hRc.resolve_left (fun h => he h.1)).2.1, rfl, rfl⟩) ?hp_3
      case hp_3 => repeat (first | exact Sub.refl _ | exact Sub.nil _ | (apply Sub.cons; (focus (repeat (first | exact One.here _ _ | apply One.there)))) | refine Sub.drop _ ?_)
     ·
      have hd := (hRc.resolve_right (fun h => h.1 (by omega))).2
      have hda := decS_at hd
      have hat1 : d.vi[sz]? = some 1 := by
        rw [byte_get d.vi sz (by omega)]; exact congrArg some (UInt8.toNat_inj.1 (by have : (1 : UInt8).toNat = 1 := rfl; omega))
      refine at_skip ?_
      refine nx_next ?_
      refine at_seq ?_
      refine at_region ?_
      refine op_v (p_move (fun _=>rfl)) ?_
      refine op_v (p_move (fun _=>rfl)) ?_
      refine op_e (w_callR (vs := [_, _]) (fun _=>rfl) Tryz.call73 (fun _=>rfl) rfl (rchain_spec h r (by have := hda.2.2; omega)) (by repeat (first | exact Pull.nil _ | (apply Pull.cons; (focus (repeat (first | exact One.here _ _ | apply One.there))))))) (fun _=>rfl) rfl rfl ?_
      rintro _ _ ⟨rfl, rfl⟩
      refine op_v (p_assign (fun _=>rfl)) ?_
      refine ops_nil ?_
      refine nx_slots (env' := [(0, _), (4, _), (5, _), (7, _), (8, _), (9, _), (10, _)]) [0, 4, 5, 7, 8, 9, 10] rfl (fun _=>rfl) ?_
      refine nx_next ?_
      refine at_seq ?_
      refine at_seq ?_
      refine at_region ?_
      refine op_v (p_move (fun _=>rfl)) ?_
      first | (refine op_v (p_add_nat (n := 32) (fun _=>rfl) (fun _=>rfl) ?_) ?_; (focus (omega))) | (refine op_v (p_add (fun _=>rfl) (fun _=>rfl) (IntWalk.i64_in _ ?_)) ?_; (focus (omega)))
      refine op_v (p_move (fun _=>rfl)) ?_
      first | refine op_v (p_gtr_nat (fun _=>rfl) (fun _=>rfl)) ?_ | refine op_v (p_gtr (fun _=>rfl) (fun _=>rfl)) ?_
      refine op_v (p_move (fun _=>rfl)) ?_
      first | refine ops_split (t := 75) (fun _=>rfl) rfl (fun hk32 => ?_) (fun hk32 => ?_) | refine ops_split_bool (t := 75) (fun _=>rfl) rfl (fun hk32 => ?_) (fun hk32 => ?_)
      ·
       refine op_skip (fun _=>rfl) rfl ?_
       refine op_skip (fun _=>rfl) rfl ?_
       refine op_skip (fun _=>rfl) rfl ?_
       refine op_skip (fun _=>rfl) rfl ?_
       refine op_skip (fun _=>rfl) rfl ?_
       refine op_skip (fun _=>rfl) rfl ?_
       refine op_skip (fun _=>rfl) rfl ?_
       refine op_v (p_pick_t (fun _=>rfl) (fun _=>rfl)) ?_
       refine ops_nil ?_
       refine nx_slots (env' := [(0, _), (4, _), (5, _), (7, _), (8, _), (9, _), (10, _), (83, _)]) [0, 4, 5, 7, 8, 9, 10, 83] rfl (fun _=>rfl) ?_
       refine nx_next ?_
       refine at_then (fun _=>rfl) ?_
       refine at_seq ?_
       refine at_region ?_
       refine op_v (p_assign (fun _=>rfl)) ?_
       refine op_v (p_assign (fun _=>rfl)) ?_
       refine ops_nil ?_
       refine nx_slots (env' := [(2, _), (3, _)]) [2, 3] rfl (fun _=>rfl) ?_
       refine nx_next ?_
       refine at_ret ?_
       refine nx_thru (by intro h; cases h) ?_
       refine nx_block_ret ?_
       refine nx_thru (by intro h; cases h) ?_
       refine nx_block_ret ?_
       refine nx_thru (by intro h; cases h) ?_
       refine nx_end2 (H' := _) rfl Tryz.results49 (fun _=>rfl) (fun _=>rfl) (by exact .inl ⟨by first | exact load_bad3 hinv hf (by omega) (by omega) (by omega) hd (fun h => by omega) | exact load_bad3 hinv hf (by omega) (by omega) (by omega) hd (fun h9 => hne (by rw [hex, hse.1 h9.2])), rfl, rfl⟩) ?hp_4
       case hp_4 => repeat (first | exact Sub.refl _ | exact Sub.nil _ | (apply Sub.cons; (focus (repeat (first | exact One.here _ _ | apply One.there)))) | refine Sub.drop _ ?_)
      ·
       obtain ⟨hse, hlen⟩ := stored_eq h hd hat1 (by omega)
       have hex : (str d.vi).extract k (k + 32) = str ((d.vi.drop k).take 32) := extract_str d.vi k 32
       refine op_wg (fun _=>rfl) (p_move (fun _=>rfl)) rfl rfl ?_
       refine op_wg (fun _=>rfl) (p_move (fun _=>rfl)) rfl rfl ?_
       refine op_wg (fun _=>rfl) (p_move (fun _=>rfl)) rfl rfl ?_
       first | (refine op_wg (fun _=>rfl) (p_add_nat (n := 32) (fun _=>rfl) (fun _=>rfl) ?_) rfl rfl ?_; (focus (omega))) | (refine op_wg (fun _=>rfl) (p_add (fun _=>rfl) (fun _=>rfl) (IntWalk.i64_in _ ?_)) rfl rfl ?_; (focus (omega)))
       (refine op_wg (fun _=>rfl) (p_slice_str Tryz.underlying9 (fun _=>rfl) (fun _=>rfl) (fun _=>rfl) ?_ ?_) rfl rfl ?_; (focus (omega)); (focus (omega)))
       refine op_wg (fun _=>rfl) (p_move (fun _=>rfl)) rfl rfl ?_
       refine op_wg (fun _=>rfl) (p_neq_str (fun _=>rfl) (fun _=>rfl)) rfl rfl ?_
       refine op_v (p_pick_f (fun _=>rfl) (fun _=>rfl)) ?_
       refine ops_nil ?_
       refine nx_slots (env' := [(0, _), (4, _), (5, _), (7, _), (8, _), (9, _), (10, _), (83, _)]) [0, 4, 5, 7, 8, 9, 10, 83] rfl (fun _=>rfl) ?_
       refine nx_next ?_
       first | refine at_if (fun _=>rfl) (fun hne => ?_) (fun hne => ?_) | refine at_if_bool (fun _=>rfl) (fun hne => ?_) (fun hne => ?_)
       ·
        refine at_seq ?_
        refine at_region ?_
        refine op_v (p_assign (fun _=>rfl)) ?_
        refine op_v (p_assign (fun _=>rfl)) ?_
        refine ops_nil ?_
        refine nx_slots (env' := [(2, _), (3, _)]) [2, 3] rfl (fun _=>rfl) ?_
        refine nx_next ?_
        refine at_ret ?_
        refine nx_thru (by intro h; cases h) ?_
        refine nx_block_ret ?_
        refine nx_thru (by intro h; cases h) ?_
        refine nx_block_ret ?_
        refine nx_thru (by intro h; cases h) ?_
        refine nx_end2 (H' := _) rfl Tryz.results49 (fun _=>rfl) (fun _=>rfl) (by exact .inl ⟨by first | exact load_bad3 hinv hf (by omega) (by omega) (by omega) hd (fun h => by omega) | exact load_bad3 hinv hf (by omega) (by omega) (by omega) hd (fun h9 => hne (by rw [hex, hse.1 h9.2])), rfl, rfl⟩) ?hp_5
        case hp_5 => repeat (first | exact Sub.refl _ | exact Sub.nil _ | (apply Sub.cons; (focus (repeat (first | exact One.here _ _ | apply One.there)))) | refine Sub.drop _ ?_)
       ·
        have heq := hse.2 (str_inj (by rw [← hex]; exact Classical.not_not.1 hne))
        have hnext := load_next hinv hf (by omega) (by omega) (by omega) hd ⟨by omega, heq⟩
        refine at_skip ?_
        refine nx_next ?_
        refine at_seq ?_
        refine at_region ?_
        refine op_v (p_move (fun _=>rfl)) ?_
        refine op_v (p_move (fun _=>rfl)) ?_
        refine op_v (p_nilChk (fun _=>rfl) rfl) ?_
        first | refine op_v (p_fieldAddr0 (off := 1) Tryz.underlying43 rfl rfl Tryz.sizeOf22 (fun _=>rfl)) ?_ | refine op_v (p_fieldAddr1 (off := 1) Tryz.underlying43 rfl rfl Tryz.sizeOf22 (fun _=>rfl)) ?_
        refine op_r (by repeat (first | exact Has.here _ | apply Has.there)) (p_load Tryz.isAgg22 (fun _=>rfl) (by rfl)) rfl rfl ?_
        refine op_v (p_move (fun _=>rfl)) ?_
        refine op_e (w_buildSlice (vs := [_]) (cs := [_]) Tryz.underlying22 Tryz.sizeOf9 Tryz.zeroValue9 (fun _=>rfl) rfl rfl rfl rfl rfl) (fun _=>rfl) rfl rfl ?_
        rintro _ _ ⟨gb, rfl, rfl⟩
        refine op_e (w_append (by_ := 16) (news := [_]) Tryz.underlying22 (rfl : Tryz.prog.info? 9 = some Tryz.t9) rfl rfl rfl rfl (fun _=>rfl) hrow (fun _=>rfl) (by repeat (first | exact One.here _ _ | apply One.there)) (by repeat (first | exact Has.here _ | apply Has.there)) (by rfl) rfl (by simp [Value.oneCell']) (by decide) (by (simp only [List.length_map]; omega)) (by (simp only [List.length_map]; omega))) (fun _=>rfl) rfl rfl ?_
        rintro _ _ ⟨sq, hrq, rfl⟩
        obtain ⟨gq, cq, rfl⟩ := hrq.form
        refine op_v (p_nilChk (fun _=>rfl) rfl) ?_
        first | refine op_v (p_fieldAddr0 (off := 1) Tryz.underlying43 rfl rfl Tryz.sizeOf22 (fun _=>rfl)) ?_ | refine op_v (p_fieldAddr1 (off := 1) Tryz.underlying43 rfl rfl Tryz.sizeOf22 (fun _=>rfl)) ?_
        refine op_e (w_store Tryz.sizeOf22 (fun _=>rfl) (fun _=>rfl) rfl (by repeat (first | exact Upd.here _ | apply Upd.there)) (by rfl) (by first | decide | exact Nat.le_refl _ | (simp; done) | (simp; omega)) (by exact free_zero _)) (fun _=>rfl) rfl rfl ?_
        rintro _ _ ⟨rfl, rfl⟩
        refine ops_nil ?_
        refine nx_slots (env' := [(0, _), (4, _), (5, _), (7, _), (8, _), (10, _)]) [0, 4, 5, 7, 8, 10] rfl (fun _=>rfl) ?_
        refine nx_next ?_
        refine at_region ?_
        refine op_v (p_move (fun _=>rfl)) ?_
        refine op_v (p_move (fun _=>rfl)) ?_
        first | (refine op_v (p_add_nat (n := 32) (fun _=>rfl) (fun _=>rfl) ?_) ?_; (focus (omega))) | (refine op_v (p_add (fun _=>rfl) (fun _=>rfl) (IntWalk.i64_in _ ?_)) ?_; (focus (omega)))
        refine op_v (p_nilChk (fun _=>rfl) rfl) ?_
        first | refine op_v (p_fieldAddr0 (off := 2) Tryz.underlying43 rfl rfl Tryz.sizeOf3 (fun _=>rfl)) ?_ | refine op_v (p_fieldAddr1 (off := 2) Tryz.underlying43 rfl rfl Tryz.sizeOf3 (fun _=>rfl)) ?_
        refine op_e (w_store Tryz.sizeOf3 (fun _=>rfl) (fun _=>rfl) rfl (by repeat (first | exact Upd.here _ | apply Upd.there)) (by rfl) (by first | decide | exact Nat.le_refl _ | (simp; done) | (simp; omega)) (by exact free_zero _)) (fun _=>rfl) rfl rfl ?_
        rintro _ _ ⟨rfl, rfl⟩
        refine ops_nil ?_
        refine nx_slots (env' := [(0, _), (4, _), (5, _), (7, _), (8, _)]) [0, 4, 5, 7, 8] rfl (fun _=>rfl) ?_
        refine nx_block_normal ?_
        refine nx_slots (env' := [(8, _), (0, _), (4, _), (5, _), (7, _)]) [8, 0, 4, 5, 7] rfl (fun _=>rfl) ?_
        refine nx_againB (e' := [(8, _)]) (m := _) (H' := _) (by
              exact ⟨f - 1, rs ++ [r], chainS h r, k + 32, _, _, rfl, ⟨by omega, by omega, by rw [hh, headL_snoc], by rw [List.length_append, List.length_singleton]; omega, by
                intro x hx; rcases List.mem_append.1 hx with h9 | h9
                · exact hsh x h9
                · rw [List.mem_singleton.1 h9]; exact hda.2.2, by rw [List.map_append]; exact hrq, by rw [hlen] at hnext; exact hnext⟩, rfl, rfl⟩) ?hm_6 ?hp_6
        case hm_6 => omega
        case hp_6 => repeat (first | exact Sub.refl _ | exact Sub.nil _ | (apply Sub.cons; (focus (repeat (first | exact One.here _ _ | apply One.there)))) | refine Sub.drop _ ?_)
   ·
    have hend := load_end hinv (.inr (by omega))
    refine at_exit ?_
    refine nx_thru (by intro h; cases h) ?_
    refine nx_thru (by intro h; cases h) ?_
    refine nx_block_exit ?_
    refine nx_next ?_
    refine at_seq ?_
    refine at_region ?_
    refine op_v (p_move (fun _=>rfl)) ?_
    refine op_v (p_move (fun _=>rfl)) ?_
    refine op_v (p_nilChk (fun _=>rfl) rfl) ?_
    first | refine op_v (p_fieldAddr0 (off := 2) Tryz.underlying43 rfl rfl Tryz.sizeOf3 (fun _=>rfl)) ?_ | refine op_v (p_fieldAddr1 (off := 2) Tryz.underlying43 rfl rfl Tryz.sizeOf3 (fun _=>rfl)) ?_
    refine op_r (by repeat (first | exact Has.here _ | apply Has.there)) (p_load Tryz.isAgg3 (fun _=>rfl) (by rfl)) rfl rfl ?_
    first | (refine op_v (p_sub_nat (fun _=>rfl) (fun _=>rfl) ?_ ?_) ?_; (focus (omega)); (focus (omega))) | (refine op_v (p_sub (fun _=>rfl) (fun _=>rfl) (IntWalk.i64_in _ ?_)) ?_; (focus (omega)))
    refine op_e (w_makeSlice (by_ := 1) Tryz.underlying39 (rfl : Tryz.prog.info? 5 = some Tryz.t5) rfl rfl rfl rfl (fun _=>rfl) (fun _=>rfl) ?_ ?_ ?_) (fun _=>rfl) rfl rfl ?_
    (focus (omega))
    (focus (omega))
    (focus (omega))
    rintro _ _ ⟨b4, rfl, rfl⟩
    refine op_r (by repeat (first | exact Has.here _ | apply Has.there)) (p_conv_bytes_str Tryz.underlying39 Tryz.underlying5 Tryz.underlying9 (fun _=>rfl) (by exact (show (_ = List.map u8v (List.replicate (d.vi.length - sz) 0)) ∧ _ from ⟨by simp [u8v], by simp⟩))) rfl rfl ?_
    refine op_v (p_assign (fun _=>rfl)) ?_
    refine ops_nil ?_
    refine nx_slots (env' := [(0, _), (5, _), (7, _), (12, _)]) [0, 5, 7, 12] rfl (fun _=>rfl) ?_
    refine nx_next ?_
    refine at_seq ?_
    refine at_seq ?_
    refine at_region ?_
    refine op_v (p_move (fun _=>rfl)) ?_
    refine op_v (p_move (fun _=>rfl)) ?_
    refine op_v (p_nilChk (fun _=>rfl) rfl) ?_
    first | refine op_v (p_fieldAddr0 (off := 2) Tryz.underlying43 rfl rfl Tryz.sizeOf3 (fun _=>rfl)) ?_ | refine op_v (p_fieldAddr1 (off := 2) Tryz.underlying43 rfl rfl Tryz.sizeOf3 (fun _=>rfl)) ?_
    refine op_r (by repeat (first | exact Has.here _ | apply Has.there)) (p_load Tryz.isAgg3 (fun _=>rfl) (by rfl)) rfl rfl ?_
    refine op_w (p_slice_drop Tryz.underlying9 (fun _=>rfl) (fun _=>rfl) hz) rfl rfl ?_
    refine op_v (p_move (fun _=>rfl)) ?_
    refine op_v (p_neq_str (fun _=>rfl) (fun _=>rfl)) ?_
    refine ops_nil ?_
    refine nx_slots (env' := [(0, _), (7, _), (12, _), (114, _)]) [0, 7, 12, 114] rfl (fun _=>rfl) ?_
    refine nx_next ?_
    first | refine at_if (fun _=>rfl) (fun hta => ?_) (fun hta => ?_) | refine at_if_bool (fun _=>rfl) (fun hta => ?_) (fun hta => ?_)
    ·
     have hne0 : d.vi.drop sz ≠ List.replicate (d.vi.length - sz) 0 := fun e => hta (by rw [e])
     have hlt9 : sz < d.vi.length := by
       rcases Nat.lt_or_ge sz d.vi.length with h9 | h9
       · exact h9
       · exact absurd (by rw [List.drop_of_length_le h9, show d.vi.length - sz = 0 by omega]; rfl) hne0
     refine at_seq ?_
     refine at_region ?_
     refine op_v (p_move (fun _=>rfl)) ?_
     refine op_v (p_move (fun _=>rfl)) ?_
     refine op_v (p_nilChk (fun _=>rfl) rfl) ?_
     first | refine op_v (p_fieldAddr0 (off := 2) Tryz.underlying43 rfl rfl Tryz.sizeOf3 (fun _=>rfl)) ?_ | refine op_v (p_fieldAddr1 (off := 2) Tryz.underlying43 rfl rfl Tryz.sizeOf3 (fun _=>rfl)) ?_
     refine op_r (by repeat (first | exact Has.here _ | apply Has.there)) (p_load Tryz.isAgg3 (fun _=>rfl) (by rfl)) rfl rfl ?_
     refine op_v (p_move (fun _=>rfl)) ?_
     refine ops_eff (fun _=>rfl) (fits_of rfl) rfl (w_call (vs := [_, _, _]) (fun _=>rfl) Tryz.call14 (fun _=>rfl) rfl (rd_write d rp sd hR sz (List.replicate (d.vi.length - sz) 0) (by rw [List.length_replicate]; omega) (by omega)) (by repeat (first | exact Pull.nil _ | (apply Pull.cons; (focus (repeat (first | exact One.here _ _ | apply One.there))))))) ?_ no_pan
     rintro _ _ ⟨_, ⟨s1, rfl, rfl, hR1⟩, rfl⟩
     obtain ⟨p1, hp1⟩ : ∃ p, p = d.write sz (List.replicate (d.vi.length - sz) 0) := ⟨_, rfl⟩
     have hpd := write_pend d sz (List.replicate (d.vi.length - sz) 0)
     have hzero : d.zero sz = if p1.1 ≠ 0 then p1 else p1.2.sync := by rw [hp1]; rfl
     rw [← hp1] at hR1 hpd ⊢
     refine op_v (p_assign (fun _=>rfl)) ?_
     refine ops_nil ?_
     refine nx_slots (env' := [(0, _), (6, _), (7, _)]) [0, 6, 7] rfl (fun _=>rfl) ?_
     refine nx_next ?_
     refine at_seq ?_
     refine at_seq ?_
     refine at_region ?_
     refine op_v (p_move (fun _=>rfl)) ?_
     first | refine op_v (p_eql_nat (n := 0) (fun _=>rfl) (fun _=>rfl)) ?_ | refine op_v (p_eql (fun _=>rfl) (fun _=>rfl)) ?_
     refine ops_nil ?_
     refine nx_slots (env' := [(0, _), (6, _), (7, _), (123, _)]) [0, 6, 7, 123] rfl (fun _=>rfl) ?_
     refine nx_next ?_
     first | refine at_if (fun _=>rfl) (fun hq1 => ?_) (fun hq1 => ?_) | refine at_if_bool (fun _=>rfl) (fun hq1 => ?_) (fun hq1 => ?_)
     ·
      rw [if_neg (fun h => h hq1)] at hzero
      refine at_region ?_
      refine op_v (p_move (fun _=>rfl)) ?_
      refine ops_eff (fun _=>rfl) (fits_of rfl) rfl (w_call (vs := [_]) (fun _=>rfl) Tryz.call44 (fun _=>rfl) rfl (rd_sync p1.2 rp s1 hR1 (by omega)) (by repeat (first | exact Pull.nil _ | (apply Pull.cons; (focus (repeat (first | exact One.here _ _ | apply One.there))))))) ?_ no_pan
      rintro _ _ ⟨_, ⟨s2, rfl, rfl, hR2⟩, rfl⟩
      rw [← hzero] at hR2 ⊢
      refine op_v (p_assign (fun _=>rfl)) ?_
      refine ops_nil ?_
      refine nx_slots (env' := [(6, _), (7, _)]) [6, 7] rfl (fun _=>rfl) ?_
      refine nx_next ?_
      refine at_seq ?_
      refine at_region ?_
      refine op_v (p_move (fun _=>rfl)) ?_
      first | refine op_v (p_neq_nat (n := 0) (fun _=>rfl) (fun _=>rfl)) ?_ | refine op_v (p_neq (fun _=>rfl) (fun _=>rfl)) ?_
      refine ops_nil ?_
      refine nx_slots (env' := [(6, _), (7, _), (127, _)]) [6, 7, 127] rfl (fun _=>rfl) ?_
      refine nx_next ?_
      first | refine at_if (fun _=>rfl) (fun hq2 => ?_) (fun hq2 => ?_) | refine at_if_bool (fun _=>rfl) (fun hq2 => ?_) (fun hq2 => ?_)
      ·
       refine at_seq ?_
       refine at_region ?_
       refine op_v (p_move (fun _=>rfl)) ?_
       refine op_v (p_assign (fun _=>rfl)) ?_
       refine op_v (p_assign (fun _=>rfl)) ?_
       refine ops_nil ?_
       refine nx_slots (env' := [(2, _), (3, _)]) [2, 3] rfl (fun _=>rfl) ?_
       refine nx_next ?_
       refine at_ret ?_
       refine nx_thru (by intro h; cases h) ?_
       refine nx_end2 (H' := _) rfl Tryz.results49 (fun _=>rfl) (fun _=>rfl) (by exact .inr ⟨rs, h, sz, _, sr, kp, hend, hh, hz, hn, hsh, hrow, .inr ⟨hne0, _, by first | exact hR2 | exact hR1, .inr ⟨hq2, rfl, rfl⟩⟩⟩) ?hp_7
       case hp_7 => repeat (first | exact Sub.refl _ | exact Sub.nil _ | (apply Sub.cons; (focus (repeat (first | exact One.here _ _ | apply One.there)))) | refine Sub.drop _ ?_)
      ·
       refine at_skip ?_
       refine nx_next ?_
       refine at_seq ?_
       refine at_region ?_
       refine op_v (p_move (fun _=>rfl)) ?_
       refine op_v (p_assign (fun _=>rfl)) ?_
       refine op_v (p_assign (fun _=>rfl)) ?_
       refine ops_nil ?_
       refine nx_slots (env' := [(2, _), (3, _)]) [2, 3] rfl (fun _=>rfl) ?_
       refine nx_next ?_
       refine at_ret ?_
       refine nx_end2 (H' := _) rfl Tryz.results49 (fun _=>rfl) (fun _=>rfl) (by first | exact .inr ⟨rs, h, sz, _, sr, kp, hend, hh, hz, hn, hsh, hrow, .inl ⟨heq0, rfl, rfl⟩⟩ | exact .inr ⟨rs, h, sz, _, sr, kp, hend, hh, hz, hn, hsh, hrow, .inr ⟨hne0, _, by first | exact hR2 | exact hR1, .inl ⟨Classical.not_not.1 hq2, rfl, rfl⟩⟩⟩) ?hp_8
       case hp_8 => repeat (first | exact Sub.refl _ | exact Sub.nil _ | (apply Sub.cons; (focus (repeat (first | exact One.here _ _ | apply One.there)))) | refine Sub.drop _ ?_)
     ·
      rw [if_pos hq1] at hzero
      rw [← hzero] at hR1 hq1 ⊢
      refine at_skip ?_
      refine nx_next ?_
      refine at_seq ?_
      refine at_region ?_
      refine op_v (p_move (fun _=>rfl)) ?_
      first | refine op_v (p_neq_nat (n := 0) (fun _=>rfl) (fun _=>rfl)) ?_ | refine op_v (p_neq (fun _=>rfl) (fun _=>rfl)) ?_
      refine ops_nil ?_
      refine nx_slots (env' := [(6, _), (7, _), (127, _)]) [6, 7, 127] rfl (fun _=>rfl) ?_
      refine nx_next ?_
      first | refine at_if (fun _=>rfl) (fun hq2 => ?_) (fun hq2 => ?_) | refine at_if_bool (fun _=>rfl) (fun hq2 => ?_) (fun hq2 => ?_)
      ·
       refine at_seq ?_
       refine at_region ?_
       refine op_v (p_move (fun _=>rfl)) ?_
       refine op_v (p_assign (fun _=>rfl)) ?_
       refine op_v (p_assign (fun _=>rfl)) ?_
       refine ops_nil ?_
       refine nx_slots (env' := [(2, _), (3, _)]) [2, 3] rfl (fun _=>rfl) ?_
       refine nx_next ?_
       refine at_ret ?_
       refine nx_thru (by intro h; cases h) ?_
       refine nx_end2 (H' := _) rfl Tryz.results49 (fun _=>rfl) (fun _=>rfl) (by exact .inr ⟨rs, h, sz, _, sr, kp, hend, hh, hz, hn, hsh, hrow, .inr ⟨hne0, _, by first | exact hR2 | exact hR1, .inr ⟨hq2, rfl, rfl⟩⟩⟩) ?hp_9
       case hp_9 => repeat (first | exact Sub.refl _ | exact Sub.nil _ | (apply Sub.cons; (focus (repeat (first | exact One.here _ _ | apply One.there)))) | refine Sub.drop _ ?_)
      ·
       refine at_skip ?_
       refine nx_next ?_
       refine at_seq ?_
       refine at_region ?_
       refine op_v (p_move (fun _=>rfl)) ?_
       refine op_v (p_assign (fun _=>rfl)) ?_
       refine op_v (p_assign (fun _=>rfl)) ?_
       refine ops_nil ?_
       refine nx_slots (env' := [(2, _), (3, _)]) [2, 3] rfl (fun _=>rfl) ?_
       refine nx_next ?_
       refine at_ret ?_
       refine nx_end2 (H' := _) rfl Tryz.results49 (fun _=>rfl) (fun _=>rfl) (by first | exact .inr ⟨rs, h, sz, _, sr, kp, hend, hh, hz, hn, hsh, hrow, .inl ⟨heq0, rfl, rfl⟩⟩ | exact .inr ⟨rs, h, sz, _, sr, kp, hend, hh, hz, hn, hsh, hrow, .inr ⟨hne0, _, by first | exact hR2 | exact hR1, .inl ⟨Classical.not_not.1 hq2, rfl, rfl⟩⟩⟩) ?hp_10
       case hp_10 => repeat (first | exact Sub.refl _ | exact Sub.nil _ | (apply Sub.cons; (focus (repeat (first | exact One.here _ _ | apply One.there)))) | refine Sub.drop _ ?_)
    ·
     have heq0 : d.vi.drop sz = List.replicate (d.vi.length - sz) 0 := str_inj (Classical.not_not.1 hta)
     refine at_skip ?_
     refine nx_next ?_
     refine at_seq ?_
     refine at_region ?_
     refine op_v (p_move (fun _=>rfl)) ?_
     refine op_v (p_assign (fun _=>rfl)) ?_
     refine op_v (p_assign (fun _=>rfl)) ?_
     refine ops_nil ?_
     refine nx_slots (env' := [(2, _), (3, _)]) [2, 3] rfl (fun _=>rfl) ?_
     refine nx_next ?_
     refine at_ret ?_
     refine nx_end2 (H' := _) rfl Tryz.results49 (fun _=>rfl) (fun _=>rfl) (by first | exact .inr ⟨rs, h, sz, _, sr, kp, hend, hh, hz, hn, hsh, hrow, .inl ⟨heq0, rfl, rfl⟩⟩ | exact .inr ⟨rs, h, sz, _, sr, kp, hend, hh, hz, hn, hsh, hrow, .inr ⟨hne0, _, by first | exact hR2 | exact hR1, .inl ⟨Classical.not_not.1 hq2, rfl, rfl⟩⟩⟩) ?hp_11
     case hp_11 => repeat (first | exact Sub.refl _ | exact Sub.nil _ | (apply Sub.cons; (focus (repeat (first | exact One.here _ _ | apply One.there)))) | refine Sub.drop _ ?_)
  ·
   have hend := load_end hinv (.inl (by omega))
   refine op_skip (fun _=>rfl) rfl ?_
   refine op_skip (fun _=>rfl) rfl ?_
   refine op_skip (fun _=>rfl) rfl ?_
   refine op_skip (fun _=>rfl) rfl ?_
   refine op_skip (fun _=>rfl) rfl ?_
   refine op_skip (fun _=>rfl) rfl ?_
   refine op_skip (fun _=>rfl) rfl ?_
   refine op_v (p_pick_f (fun _=>rfl) (fun _=>rfl)) ?_
   refine ops_nil ?_
   refine nx_slots (env' := [(0, _), (4, _), (5, _), (7, _), (8, _), (45, _)]) [0, 4, 5, 7, 8, 45] rfl (fun _=>rfl) ?_
   refine nx_next ?_
   refine at_else (fun _=>rfl) ?_
   refine at_exit ?_
   refine nx_thru (by intro h; cases h) ?_
   refine nx_thru (by intro h; cases h) ?_
   refine nx_block_exit ?_
   refine nx_next ?_
   refine at_seq ?_
   refine at_region ?_
   refine op_v (p_move (fun _=>rfl)) ?_
   refine op_v (p_move (fun _=>rfl)) ?_
   refine op_v (p_nilChk (fun _=>rfl) rfl) ?_
   first | refine op_v (p_fieldAddr0 (off := 2) Tryz.underlying43 rfl rfl Tryz.sizeOf3 (fun _=>rfl)) ?_ | refine op_v (p_fieldAddr1 (off := 2) Tryz.underlying43 rfl rfl Tryz.sizeOf3 (fun _=>rfl)) ?_
   refine op_r (by repeat (first | exact Has.here _ | apply Has.there)) (p_load Tryz.isAgg3 (fun _=>rfl) (by rfl)) rfl rfl ?_
   first | (refine op_v (p_sub_nat (fun _=>rfl) (fun _=>rfl) ?_ ?_) ?_; (focus (omega)); (focus (omega))) | (refine op_v (p_sub (fun _=>rfl) (fun _=>rfl) (IntWalk.i64_in _ ?_)) ?_; (focus (omega)))
   refine op_e (w_makeSlice (by_ := 1) Tryz.underlying39 (rfl : Tryz.prog.info? 5 = some Tryz.t5) rfl rfl rfl rfl (fun _=>rfl) (fun _=>rfl) ?_ ?_ ?_) (fun _=>rfl) rfl rfl ?_
   (focus (omega))
   (focus (omega))
   (focus (omega))
   rintro _ _ ⟨b5, rfl, rfl⟩
   refine op_r (by repeat (first | exact Has.here _ | apply Has.there)) (p_conv_bytes_str Tryz.underlying39 Tryz.underlying5 Tryz.underlying9 (fun _=>rfl) (by exact (show (_ = List.map u8v (List.replicate (d.vi.length - sz) 0)) ∧ _ from ⟨by simp [u8v], by simp⟩))) rfl rfl ?_
   refine op_v (p_assign (fun _=>rfl)) ?_
   refine ops_nil ?_
   refine nx_slots (env' := [(0, _), (5, _), (7, _), (12, _)]) [0, 5, 7, 12] rfl (fun _=>rfl) ?_
   refine nx_next ?_
   refine at_seq ?_
   refine at_seq ?_
   refine at_region ?_
   refine op_v (p_move (fun _=>rfl)) ?_
   refine op_v (p_move (fun _=>rfl)) ?_
   refine op_v (p_nilChk (fun _=>rfl) rfl) ?_
   first | refine op_v (p_fieldAddr0 (off := 2) Tryz.underlying43 rfl rfl Tryz.sizeOf3 (fun _=>rfl)) ?_ | refine op_v (p_fieldAddr1 (off := 2) Tryz.underlying43 rfl rfl Tryz.sizeOf3 (fun _=>rfl)) ?_
   refine op_r (by repeat (first | exact Has.here _ | apply Has.there)) (p_load Tryz.isAgg3 (fun _=>rfl) (by rfl)) rfl rfl ?_
   refine op_w (p_slice_drop Tryz.underlying9 (fun _=>rfl) (fun _=>rfl) hz) rfl rfl ?_
   refine op_v (p_move (fun _=>rfl)) ?_
   refine op_v (p_neq_str (fun _=>rfl) (fun _=>rfl)) ?_
   refine ops_nil ?_
   refine nx_slots (env' := [(0, _), (7, _), (12, _), (114, _)]) [0, 7, 12, 114] rfl (fun _=>rfl) ?_
   refine nx_next ?_
   first | refine at_if (fun _=>rfl) (fun hta => ?_) (fun hta => ?_) | refine at_if_bool (fun _=>rfl) (fun hta => ?_) (fun hta => ?_)
   ·
    have hne0 : d.vi.drop sz ≠ List.replicate (d.vi.length - sz) 0 := fun e => hta (by rw [e])
    have hlt9 : sz < d.vi.length := by
      rcases Nat.lt_or_ge sz d.vi.length with h9 | h9
      · exact h9
      · exact absurd (by rw [List.drop_of_length_le h9, show d.vi.length - sz = 0 by omega]; rfl) hne0
    refine at_seq ?_
    refine at_region ?_
    refine op_v (p_move (fun _=>rfl)) ?_
    refine op_v (p_move (fun _=>rfl)) ?_
    refine op_v (p_nilChk (fun _=>rfl) rfl) ?_
    first | refine op_v (p_fieldAddr0 (off := 2) Tryz.underlying43 rfl rfl Tryz.sizeOf3 (fun _=>rfl)) ?_ | refine op_v (p_fieldAddr1 (off := 2) Tryz.underlying43 rfl rfl Tryz.sizeOf3 (fun _=>rfl)) ?_
    refine op_r (by repeat (first | exact Has.here _ | apply Has.there)) (p_load Tryz.isAgg3 (fun _=>rfl) (by rfl)) rfl rfl ?_
    refine op_v (p_move (fun _=>rfl)) ?_
    refine ops_eff (fun _=>rfl) (fits_of rfl) rfl (w_call (vs := [_, _, _]) (fun _=>rfl) Tryz.call14 (fun _=>rfl) rfl (rd_write d rp sd hR sz (List.replicate (d.vi.length - sz) 0) (by rw [List.length_replicate]; omega) (by omega)) (by repeat (first | exact Pull.nil _ | (apply Pull.cons; (focus (repeat (first | exact One.here _ _ | apply One.there))))))) ?_ no_pan
    rintro _ _ ⟨_, ⟨s1, rfl, rfl, hR1⟩, rfl⟩
    obtain ⟨p1, hp1⟩ : ∃ p, p = d.write sz (List.replicate (d.vi.length - sz) 0) := ⟨_, rfl⟩
    have hpd := write_pend d sz (List.replicate (d.vi.length - sz) 0)
    have hzero : d.zero sz = if p1.1 ≠ 0 then p1 else p1.2.sync := by rw [hp1]; rfl
    rw [← hp1] at hR1 hpd ⊢
    refine op_v (p_assign (fun _=>rfl)) ?_
    refine ops_nil ?_
    refine nx_slots (env' := [(0, _), (6, _), (7, _)]) [0, 6, 7] rfl (fun _=>rfl) ?_
    refine nx_next ?_
    refine at_seq ?_
    refine at_seq ?_
    refine at_region ?_
    refine op_v (p_move (fun _=>rfl)) ?_
    first | refine op_v (p_eql_nat (n := 0) (fun _=>rfl) (fun _=>rfl)) ?_ | refine op_v (p_eql (fun _=>rfl) (fun _=>rfl)) ?_
    refine ops_nil ?_
    refine nx_slots (env' := [(0, _), (6, _), (7, _), (123, _)]) [0, 6, 7, 123] rfl (fun _=>rfl) ?_
    refine nx_next ?_
    first | refine at_if (fun _=>rfl) (fun hq1 => ?_) (fun hq1 => ?_) | refine at_if_bool (fun _=>rfl) (fun hq1 => ?_) (fun hq1 => ?_)
    ·
     rw [if_neg (fun h => h hq1)] at hzero
     refine at_region ?_
     refine op_v (p_move (fun _=>rfl)) ?_
     refine ops_eff (fun _=>rfl) (fits_of rfl) rfl (w_call (vs := [_]) (fun _=>rfl) Tryz.call44 (fun _=>rfl) rfl (rd_sync p1.2 rp s1 hR1 (by omega)) (by repeat (first | exact Pull.nil _ | (apply Pull.cons; (focus (repeat (first | exact One.here _ _ | apply One.there))))))) ?_ no_pan
     rintro _ _ ⟨_, ⟨s2, rfl, rfl, hR2⟩, rfl⟩
     rw [← hzero] at hR2 ⊢
     refine op_v (p_assign (fun _=>rfl)) ?_
     refine ops_nil ?_
     refine nx_slots (env' := [(6, _), (7, _)]) [6, 7] rfl (fun _=>rfl) ?_
     refine nx_next ?_
     refine at_seq ?_
     refine at_region ?_
     refine op_v (p_move (fun _=>rfl)) ?_
     first | refine op_v (p_neq_nat (n := 0) (fun _=>rfl) (fun _=>rfl)) ?_ | refine op_v (p_neq (fun _=>rfl) (fun _=>rfl)) ?_
     refine ops_nil ?_
     refine nx_slots (env' := [(6, _), (7, _), (127, _)]) [6, 7, 127] rfl (fun _=>rfl) ?_
     refine nx_next ?_
     first | refine at_if (fun _=>rfl) (fun hq2 => ?_) (fun hq2 => ?_) | refine at_if_bool (fun _=>rfl) (fun hq2 => ?_) (fun hq2 => ?_)
     ·
      refine at_seq ?_
      refine at_region ?_
      refine op_v (p_move (fun _=>rfl)) ?_
      refine op_v (p_assign (fun _=>rfl)) ?_
      refine op_v (p_assign (fun _=>rfl)) ?_
      refine ops_nil ?_
      refine nx_slots (env' := [(2, _), (3, _)]) [2, 3] rfl (fun _=>rfl) ?_
      refine nx_next ?_
      refine at_ret ?_
      refine nx_thru (by intro h; cases h) ?_
      refine nx_end2 (H' := _) rfl Tryz.results49 (fun _=>rfl) (fun _=>rfl) (by exact .inr ⟨rs, h, sz, _, sr, kp, hend, hh, hz, hn, hsh, hrow, .inr ⟨hne0, _, by first | exact hR2 | exact hR1, .inr ⟨hq2, rfl, rfl⟩⟩⟩) ?hp_12
      case hp_12 => repeat (first | exact Sub.refl _ | exact Sub.nil _ | (apply Sub.cons; (focus (repeat (first | exact One.here _ _ | apply One.there)))) | refine Sub.drop _ ?_)
     ·
      refine at_skip ?_
      refine nx_next ?_
      refine at_seq ?_
      refine at_region ?_
      refine op_v (p_move (fun _=>rfl)) ?_
      refine op_v (p_assign (fun _=>rfl)) ?_
      refine op_v (p_assign (fun _=>rfl)) ?_
      refine ops_nil ?_
      refine nx_slots (env' := [(2, _), (3, _)]) [2, 3] rfl (fun _=>rfl) ?_
      refine nx_next ?_
      refine at_ret ?_
      refine nx_end2 (H' := _) rfl Tryz.results49 (fun _=>rfl) (fun _=>rfl) (by first | exact .inr ⟨rs, h, sz, _, sr, kp, hend, hh, hz, hn, hsh, hrow, .inl ⟨heq0, rfl, rfl⟩⟩ | exact .inr ⟨rs, h, sz, _, sr, kp, hend, hh, hz, hn, hsh, hrow, .inr ⟨hne0, _, by first | exact hR2 | exact hR1, .inl ⟨Classical.not_not.1 hq2, rfl, rfl⟩⟩⟩) ?hp_13
      case hp_13 => repeat (first | exact Sub.refl _ | exact Sub.nil _ | (apply Sub.cons; (focus (repeat (first | exact One.here _ _ | apply One.there)))) | refine Sub.drop _ ?_)
    ·
     rw [if_pos hq1] at hzero
     rw [← hzero] at hR1 hq1 ⊢
     refine at_skip ?_
     refine nx_next ?_
     refine at_seq ?_
     refine at_region ?_
     refine op_v (p_move (fun _=>rfl)) ?_
     first | refine op_v (p_neq_nat (n := 0) (fun _=>rfl) (fun _=>rfl)) ?_ | refine op_v (p_neq (fun _=>rfl) (fun _=>rfl)) ?_
     refine ops_nil ?_
     refine nx_slots (env' := [(6, _), (7, _), (127, _)]) [6, 7, 127] rfl (fun _=>rfl) ?_
     refine nx_next ?_
     first | refine at_if (fun _=>rfl) (fun hq2 => ?_) (fun hq2 => ?_) | refine at_if_bool (fun _=>rfl) (fun hq2 => ?_) (fun hq2 => ?_)
     ·
      refine at_seq ?_
      refine at_region ?_
      refine op_v (p_move (fun _=>rfl)) ?_
      refine op_v (p_assign (fun _=>rfl)) ?_
      refine op_v (p_assign (fun _=>rfl)) ?_
      refine ops_nil ?_
      refine nx_slots (env' := [(2, _), (3, _)]) [2, 3] rfl (fun _=>rfl) ?_
      refine nx_next ?_
      refine at_ret ?_
      refine nx_thru (by intro h; cases h) ?_
      refine nx_end2 (H' := _) rfl Tryz.results49 (fun _=>rfl) (fun _=>rfl) (by exact .inr ⟨rs, h, sz, _, sr, kp, hend, hh, hz, hn, hsh, hrow, .inr ⟨hne0, _, by first | exact hR2 | exact hR1, .inr ⟨hq2, rfl, rfl⟩⟩⟩) ?hp_14
      case hp_14 => repeat (first | exact Sub.refl _ | exact Sub.nil _ | (apply Sub.cons; (focus (repeat (first | exact One.here _ _ | apply One.there)))) | refine Sub.drop _ ?_)
     ·
      refine at_skip ?_
      refine nx_next ?_
      refine at_seq ?_
      refine at_region ?_
      refine op_v (p_move (fun _=>rfl)) ?_
      refine op_v (p_assign (fun _=>rfl)) ?_
      refine op_v (p_assign (fun _=>rfl)) ?_
      refine ops_nil ?_
      refine nx_slots (env' := [(2, _), (3, _)]) [2, 3] rfl (fun _=>rfl) ?_
      refine nx_next ?_
      refine at_ret ?_
      refine nx_end2 (H' := _) rfl Tryz.results49 (fun _=>rfl) (fun _=>rfl) (by first | exact .inr ⟨rs, h, sz, _, sr, kp, hend, hh, hz, hn, hsh, hrow, .inl ⟨heq0, rfl, rfl⟩⟩ | exact .inr ⟨rs, h, sz, _, sr, kp, hend, hh, hz, hn, hsh, hrow, .inr ⟨hne0, _, by first | exact hR2 | exact hR1, .inl ⟨Classical.not_not.1 hq2, rfl, rfl⟩⟩⟩) ?hp_15
      case hp_15 => repeat (first | exact Sub.refl _ | exact Sub.nil _ | (apply Sub.cons; (focus (repeat (first | exact One.here _ _ | apply One.there)))) | refine Sub.drop _ ?_)
   ·
    have heq0 : d.vi.drop sz = List.replicate (d.vi.length - sz) 0 := str_inj (Classical.not_not.1 hta)
    refine at_skip ?_
    refine nx_next ?_
    refine at_seq ?_
    refine at_region ?_
    refine op_v (p_move (fun _=>rfl)) ?_
    refine op_v (p_assign (fun _=>rfl)) ?_
    refine op_v (p_assign (fun _=>rfl)) ?_
    refine ops_nil ?_
    refine nx_slots (env' := [(2, _), (3, _)]) [2, 3] rfl (fun _=>rfl) ?_
    refine nx_next ?_
    refine at_ret ?_
    refine nx_end2 (H' := _) rfl Tryz.results49 (fun _=>rfl) (fun _=>rfl) (by first | exact .inr ⟨rs, h, sz, _, sr, kp, hend, hh, hz, hn, hsh, hrow, .inl ⟨heq0, rfl, rfl⟩⟩ | exact .inr ⟨rs, h, sz, _, sr, kp, hend, hh, hz, hn, hsh, hrow, .inr ⟨hne0, _, by first | exact hR2 | exact hR1, .inl ⟨Classical.not_not.1 hq2, rfl, rfl⟩⟩⟩) ?hp_16
    case hp_16 => repeat (first | exact Sub.refl _ | exact Sub.nil _ | (apply Sub.cons; (focus (repeat (first | exact One.here _ _ | apply One.there)))) | refine Sub.drop _ ?_)

end Go.Proofs.YtdahnapibeepkaaGreatDoor
