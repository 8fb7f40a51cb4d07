/- The reference of layer 23: Stored, Room, Open. The reference of layer 23: Append. -/
import Derived.Test.YtdahnapibeepkaaGreatDoorRd2
import Derived.Test.YtdahnapibeepkaaGreatDoorRw1
import Derived.Test.YtdahnapibeepkaaGreatDoorRf3
import Derived.Test.YtdahnapibeepkaaGreatDoorOp4
import Derived.Test.YtdahnapibeepkaaGreatDoorSn2
namespace Go.Proofs.YtdahnapibeepkaaGreatDoor
open Go Go.RowKit Gw
set_option linter.unusedVariables false
set_option maxRecDepth 100000
attribute [local irreducible] Gw.At Gw.Nx Gw.Ops
theorem decG_enc (s : List UInt8) (a : Nat) : ∀ (f i z : Nat) (n : Int) (k : Nat), i + f = 9 → z = valB ((s.drop a).take i) → (∀ x ∈ (s.drop a).take i, 128 ≤ x.toNat) → decG s a i z f = some (n, k) → a < k ∧ (s.drop a).take (k - a) = encI n
  | 0, i, z, n, k, hi, hz, hall, h => by cases h
  | f + 1, i, z, n, k, hi, hz, hall, h => by
    rw [decG] at h
    cases hb : s[a + i]? with
    | none => rw [hb] at h; cases h
    | some b =>
      rw [hb] at h
      have hlt := (List.getElem?_eq_some_iff.1 hb).1
      have hti : ((s.drop a).take i).length = i := by rw [List.length_take, List.length_drop]; omega
      have hz2 : z + b.toNat % 128 * 2 ^ (7 * i) = valB ((s.drop a).take (i + 1)) := by rw [take_more s a i b hb, valB_append, ← hz, hti]
      simp only at h
      split at h
      · rename_i h128
        exact decG_enc s a f (i + 1) _ n k (by omega) hz2 (by
          rw [take_more s a i b hb]; intro x hx
          rcases List.mem_append.1 hx with h9 | h9
          · exact hall x h9
          · rw [List.mem_singleton.1 h9]; exact h128) h
      · rename_i h128
        split at h
        · cases h
        · rename_i hno
          injection h with h
          injection h with h1 h2
          subst h1 h2
          refine ⟨by omega, ?_⟩
          rw [show a + i + 1 - a = i + 1 by omega, hz2]
          unfold encI
          rw [zz_uz, take_more s a i b hb, enc_val _ _ hall (by omega)]
          rcases Nat.eq_zero_or_pos i with h3 | h3
          · exact .inl (List.eq_nil_of_length_eq_zero (by omega))
          · exact .inr (fun h4 => hno (.inl ⟨h4, h3⟩))
theorem decS_enc_eq {s : List UInt8} {a : Nat} {r : List UInt8} {k : Nat} (h : decS s a = some (r, k)) : a < k ∧ (s.drop a).take (k - a) = encS r := by
  unfold decS at h
  cases hd : decI s a with
  | none => rw [hd] at h; cases h
  | some p =>
    obtain ⟨n, j⟩ := p
    rw [hd] at h
    obtain ⟨h1, h2⟩ := decG_enc s a 9 0 0 n j rfl (by simp [valB]) (by simp) hd
    have hat := decI_at hd
    simp only at h
    split at h
    · cases h
    · rename_i hno
      injection h with h
      injection h with h3 h4
      obtain ⟨m, rfl⟩ := Int.eq_ofNat_of_zero_le (show 0 ≤ n by omega)
      rw [Int.toNat_natCast] at h3 h4
      have hlen : r.length = m := by rw [← h3, List.length_take, List.length_drop]; omega
      refine ⟨by omega, ?_⟩
      unfold encS
      rw [hlen, ← h2, ← h4, show j + m - a = (j - a) + m by omega, List.take_add, List.drop_drop, show a + (j - a) = j by omega, h3]
/-- The stored record is the one that belongs there exactly if its chain is. -/
theorem stored_eq {s : List UInt8} {sz : Nat} {r : List UInt8} {k : Nat} (h : List UInt8) (hd : decS s (sz + 1) = some (r, k)) (h1 : s[sz]? = some 1) (hk : k + 32 ≤ s.length) :
    (recS h r = (s.drop sz).take (k + 32 - sz) ↔ (s.drop k).take 32 = chainS h r) ∧ sz + (recS h r).length = k + 32 := by
  obtain ⟨ha, he⟩ := decS_enc_eq hd
  have hlt := (List.getElem?_eq_some_iff.1 h1).1
  have e1 : (s.drop sz).take (k + 32 - sz) = [1] ++ encS r ++ (s.drop k).take 32 := by
    rw [show k + 32 - sz = 1 + (k - (sz + 1)) + 32 by omega, List.take_add, List.take_add, List.drop_drop, List.drop_drop, show sz + (1 + (k - (sz + 1))) = k by omega, he]
    congr 2
    rw [List.take_add_one, List.take_zero, List.getElem?_drop, Nat.add_zero, h1]; rfl
  have e2 : recS h r = [1] ++ encS r ++ chainS h r := by simp [recS]
  constructor
  · rw [e1, e2]
    constructor
    · intro h9; exact (List.append_cancel_left h9).symm
    · intro h9; rw [h9]
  · rw [e2, List.length_append, List.length_append]
    have h5 : (chainS h r).length = 32 := chain_len _ _
    have h6 := congrArg List.length he
    rw [List.length_take, List.length_drop] at h6
    simp only [List.length_cons, List.length_nil]
    omega
/-- A journal of the reference. -/
def KrR (j : JrS) (kp rp : Nat) (s : List Chunk) : Prop := j.h = headL zero32 j.rs ∧ j.rs.length ≤ 4194304 ∧ (∀ r ∈ j.rs, r.length ≤ 65536) ∧ ∃ v sr, Row 9 v (j.rs.map strV) sr ∧
  s = (kp, .cells #[.pointer (some ⟨rp, 0, none⟩), v, .int .i64 (j.sz : Int), .bool j.br] 43 (0, 0)) :: sr

theorem rstored_spec (h r : List UInt8) (hh : h.length = 32) (hr : r.length ≤ 65536) : DoesR Tryz.prog 43 #[.string (str h), .string (str r)] [] (.tuple #[.string (str (recS h r)), .string (str (chainS h r))]) := by
 have e1 : (⟨#[1]⟩ : ByteArray) = str [1] := rfl
 have hel := encI_len r.length (by omega) (by omega)
 have hes : (encS r).length ≤ 9 + 65536 := by unfold encS; rw [List.length_append]; omega
 have hcl : (chainS h r).length = 32 := chain_len _ _
 refine spec_enter Tryz.func43 rfl Tryz.ntmps43 rfl ?_
 intro u R
 refine at_slots (env' := [(0, _), (1, _)]) [0, 1] rfl (fun _=>rfl) ?_
 refine at_seq ?_
 refine at_region ?_
 refine op_v (p_assign (fun _=>rfl)) ?_
 refine op_v (p_assign (fun _=>rfl)) ?_
 refine ops_nil ?_
 refine nx_next ?_
 refine at_seq ?_
 refine at_region ?_
 refine op_v (p_move (fun _=>rfl)) ?_
 refine op_v (p_move (fun _=>rfl)) ?_
 refine op_e (w_callR (vs := [_, _]) (fun _=>rfl) Tryz.call73 (fun _=>rfl) rfl (rchain_spec h r (by omega)) (by repeat (first | exact Pull.nil _ | (apply Pull.cons; (focus (repeat (first | exact One.here _ _ | apply One.there))))))) (fun _=>rfl) rfl rfl ?_
 rintro _ _ ⟨rfl, rfl⟩
 refine op_v (p_assign (fun _=>rfl)) ?_
 refine ops_nil ?_
 refine nx_next ?_
 refine at_seq ?_
 refine at_region ?_
 refine op_v (p_move (fun _=>rfl)) ?_
 refine op_e (w_callR (vs := [_]) (fun _=>rfl) Tryz.call74 (fun _=>rfl) rfl (rputString_spec r hr) (by repeat (first | exact Pull.nil _ | (apply Pull.cons; (focus (repeat (first | exact One.here _ _ | apply One.there))))))) (fun _=>rfl) rfl rfl ?_
 rintro _ _ ⟨rfl, rfl⟩
 refine op_v (p_move (fun _=>rfl)) ?_
 refine op_v (p_extract (fun _=>rfl) rfl) ?_
 refine op_v (p_extract (fun _=>rfl) rfl) ?_
 refine op_v (p_assign (fun _=>rfl)) ?_
 refine op_v (p_assign (fun _=>rfl)) ?_
 refine ops_nil ?_
 refine nx_slots (env' := [(6, _), (7, _)]) [6, 7] rfl (fun _=>rfl) ?_
 refine nx_next ?_
 refine at_seq ?_
 refine at_region ?_
 refine op_v (p_move (fun _=>rfl)) ?_
 (refine op_v (p_add_str (fun _=>rfl) (fun _=>rfl) ?_) ?_; (focus (rw [e1, str_size, str_size]; simp; omega)))
 refine op_v (p_move (fun _=>rfl)) ?_
 (refine op_v (p_add_str (fun _=>rfl) (fun _=>rfl) ?_) ?_; (focus (rw [e1, str_app, str_size, str_size]; simp; omega)))
 refine op_v (p_move (fun _=>rfl)) ?_
 refine op_v (p_assign (fun _=>rfl)) ?_
 refine op_v (p_assign (fun _=>rfl)) ?_
 refine ops_nil ?_
 refine nx_next ?_
 refine at_ret ?_
 refine nx_end2 (H' := _) rfl Tryz.results43 (fun _=>rfl) (fun _=>rfl) (by exact ⟨by rw [e1, str_app, str_app]; simp [recS], rfl⟩)

theorem rroom_spec (kp rp sz : Nat) (v lv dv pv ov bv : Value) (b0 : Option Addr) (n c0 : Nat) (hz : sz ≤ 4194304) (hn : n ≤ 4194304) : DoesR Tryz.prog 19 #[.pointer (some ⟨kp, 0, none⟩)] [[(kp, .cells #[.pointer (some ⟨rp, 0, none⟩), v, .int .i64 (sz : Int), bv] 43 (0, 0))], [(rp, .cells #[.slice b0 n c0, pv, ov, lv] 77 (0, 0))]] (.int .i64 ((n : Int) - (sz : Int))) := by
 refine spec_enter Tryz.func19 rfl Tryz.ntmps19 rfl ?_
 intro u R
 refine at_slots (env' := [(0, _)]) [0] rfl (fun _=>rfl) ?_
 refine at_seq ?_
 refine at_region ?_
 refine op_v (p_assign (fun _=>rfl)) ?_
 refine ops_nil ?_
 refine nx_next ?_
 refine at_seq ?_
 refine at_draw (n := 14) (0 :: 1 :: 3 :: 7 :: 15 :: 31 :: 63 :: 127 :: 0 :: 256 :: 768 :: 1792 :: 4095 :: 8191 :: []) 0 (by kernel_rfl) (by kernel_rfl) rfl ?_
 refine lin_v (D' := 1) 0 (p_move (fun _=>rfl)) ?_
 refine lin_v (D' := 3) 1 (p_nilChk (fun _=>rfl) rfl) ?_
 refine lin_v (D' := 7) 2 (p_fieldAddr0 (off := 0) Tryz.underlying43 rfl rfl Tryz.sizeOf29 (fun _=>rfl)) ?_
 refine lin_r (D' := 15) 3 rfl rfl rfl (by repeat (first | exact Has.here _ | apply Has.there)) (p_load Tryz.isAgg29 (fun _=>rfl) (by rfl)) ?_
 refine lin_v (D' := 31) 4 (p_nilChk (fun _=>rfl) rfl) ?_
 refine lin_v (D' := 63) 5 (p_fieldAddr0 (off := 0) Tryz.underlying77 rfl rfl Tryz.sizeOf39 (fun _=>rfl)) ?_
 refine lin_r (D' := 127) 6 rfl rfl rfl (by repeat (first | exact Has.here _ | apply Has.there)) (p_load Tryz.isAgg39 (fun _=>rfl) (by rfl)) ?_
 refine lin_v (D' := 255) 7 (p_len_slice Tryz.underlying39 (fun _=>rfl)) ?_
 refine lin_v (D' := 511) 8 (p_move (fun _=>rfl)) ?_
 refine lin_v (D' := 1023) 9 (p_nilChk (fun _=>rfl) rfl) ?_
 refine lin_v (D' := 2047) 10 (p_fieldAddr0 (off := 2) Tryz.underlying43 rfl rfl Tryz.sizeOf3 (fun _=>rfl)) ?_
 refine lin_r (D' := 4095) 11 rfl rfl rfl (by repeat (first | exact Has.here _ | apply Has.there)) (p_load Tryz.isAgg3 (fun _=>rfl) (by rfl)) ?_
 refine lin_w (D' := 8191) 12 rfl rfl rfl (p_sub (fun _=>rfl) (fun _=>rfl) (IntWalk.i64_in _ (by omega))) ?_
 refine lin_v (D' := 16383) 13 (p_assign (fun _=>rfl)) ?_
 refine lin_nil ?_
 refine nx_slots (env' := [(2, _)]) [2] rfl (fun _=>rfl) ?_
 refine nx_next ?_
 refine at_ret ?_
 refine nx_end1 (H' := _) rfl Tryz.results19 (fun _=>rfl) (by exact ⟨rfl, rfl⟩)

theorem ropen_on (rp : Nat) (d : DiskS) (sd : List Chunk) (hR : RdR d rp sd) (hoff : d.off = false) (hk : d.pend.length ≤ 999990) : Does Tryz.prog 49 #[.pointer (some ⟨rp, 0, none⟩)] [sd]
      (fun r H' => (loadL d.vi (d.vi.length + 1) [] zero32 0 = none ∧ r = .tuple #[.pointer none, .int .i64 232] ∧ H' = [sd]) ∨
        (∃ rs h sz v sr kp, loadL d.vi (d.vi.length + 1) [] zero32 0 = some (rs, h, sz) ∧ h = headL zero32 rs ∧ sz ≤ d.vi.length ∧ rs.length ≤ sz ∧ (∀ r ∈ rs, r.length ≤ 65536) ∧ Row 9 v (rs.map strV) sr ∧
          ((d.vi.drop sz = List.replicate (d.vi.length - sz) 0 ∧ r = .tuple #[.pointer (some ⟨kp, 0, none⟩), .int .i64 0] ∧ H' = [[(kp, .cells #[.pointer (some ⟨rp, 0, none⟩), v, .int .i64 (sz : Int), .bool false] 43 (0, 0))], sr, sd]) ∨
           (d.vi.drop sz ≠ List.replicate (d.vi.length - sz) 0 ∧ ∃ sd', RdR (d.zero sz).2 rp sd' ∧ (((d.zero sz).1 = 0 ∧ r = .tuple #[.pointer (some ⟨kp, 0, none⟩), .int .i64 0] ∧ H' = [[(kp, .cells #[.pointer (some ⟨rp, 0, none⟩), v, .int .i64 (sz : Int), .bool false] 43 (0, 0))], sr, sd']) ∨ ((d.zero sz).1 ≠ 0 ∧ r = .tuple #[.pointer none, .int .i64 (d.zero sz).1] ∧ H' = [sd'])))))) := by
 obtain ⟨hok, hco, v0, pv0, sv0, sp0, hr0, hp0, hs0⟩ := id hR
 obtain ⟨b0, c0, hv0⟩ := hr0.form
 rw [List.length_map] at hv0
 subst hv0
 have hvi : d.vi.length ≤ 4194304 := hok.2.2.1
 have hss := str_size d.vi
 obtain ⟨res, hres⟩ : ∃ res, res = loadL d.vi (d.vi.length + 1) [] zero32 0 := ⟨_, rfl⟩
 rw [← hres]
 have hml : maxLen = 9223372036854775807 := rfl
 refine spec_enter Tryz.func49 rfl Tryz.ntmps49 rfl ?_
 intro u R
 refine at_slots (env' := [(0, _)]) [0] rfl (fun _=>rfl) ?_
 refine at_seq ?_
 refine at_region ?_
 refine op_v (p_assign (fun _=>rfl)) ?_
 refine op_v (p_assign (fun _=>rfl)) ?_
 refine ops_nil ?_
 refine nx_next ?_
 refine at_seq ?_
 try rw [hok.1]
 refine at_region ?_
 refine op_v (p_move (fun _=>rfl)) ?_
 refine op_v (p_nilChk (fun _=>rfl) rfl) ?_
 refine op_v (p_fieldAddr0 (off := 0) Tryz.underlying77 rfl rfl Tryz.sizeOf39 (fun _=>rfl)) ?_
 refine op_rm (cs := [(rp, .cells #[.slice b0 d.du.length c0, pv0, .bool d.off, .int .i64 (d.left : Int)] 77 (0, 0))]) (by simp [hs0]) (p_load Tryz.isAgg39 (fun _=>rfl) rfl) rfl rfl ?_
 refine op_v (p_len_slice Tryz.underlying39 (fun _=>rfl)) ?_
 refine op_v (p_assign (fun _=>rfl)) ?_
 refine ops_nil ?_
 refine nx_next ?_
 refine at_seq ?_
 rw [hok.1]
 refine at_region ?_
 refine op_v (p_move (fun _=>rfl)) ?_
 refine op_v (p_move (fun _=>rfl)) ?_
 refine op_e (w_callR (vs := [_, _, _]) (fun _=>rfl) Tryz.call75 (fun _=>rfl) rfl ((by have h := rd_read d rp sd hR 0 d.vi.length (by omega) (by have := hok.2.1; omega) (by omega); rw [hoff] at h; simp only [Bool.false_eq_true, if_false, List.drop_zero, List.take_length] at h; exact h : DoesR Tryz.prog 75 #[.pointer (some ⟨rp, 0, none⟩), .int .i64 ((0 : Nat) : Int), .int .i64 (d.vi.length : Int)] [sd] (.tuple #[.string (str d.vi), .int .i64 0]))) (by repeat (first | exact Pull.nil _ | (apply Pull.cons; (focus (repeat (first | exact One.here _ _ | apply One.there))))))) (fun _=>rfl) rfl rfl ?_
 rintro _ _ ⟨rfl, rfl⟩
 refine op_v (p_move (fun _=>rfl)) ?_
 refine op_v (p_extract (fun _=>rfl) rfl) ?_
 refine op_v (p_extract (fun _=>rfl) rfl) ?_
 refine op_v (p_assign (fun _=>rfl)) ?_
 refine op_v (p_assign (fun _=>rfl)) ?_
 refine ops_nil ?_
 refine nx_slots (env' := [(0, _), (4, _), (5, _), (6, _)]) [0, 4, 5, 6] rfl (fun _=>rfl) ?_
 refine nx_next ?_
 refine at_seq ?_
 refine at_seq ?_
 refine at_region ?_
 refine op_v (p_move (fun _=>rfl)) ?_
 first | refine op_v (p_neq_nat (n := 0) (fun _=>rfl) (fun _=>rfl)) ?_ | refine op_v (p_neq (fun _=>rfl) (fun _=>rfl)) ?_
 refine ops_nil ?_
 refine nx_next ?_
 first | refine at_if (fun _=>rfl) (fun hc1 => ?_) (fun hc1 => ?_) | refine at_if_bool (fun _=>rfl) (fun hc1 => ?_) (fun hc1 => ?_)
 ·
  exact absurd rfl hc1
 ·
  refine at_skip ?_
  refine nx_next ?_
  refine at_seq ?_
  refine at_region ?_
  refine op_v (p_move (fun _=>rfl)) ?_
  refine op_v (p_build (vs := [(0, _)]) (cs := #[_, _, _, _]) (fun _=>rfl) (run_build_struct (pl := #[(0, 1), (1, 1), (2, 1), (3, 1)]) Tryz.zeroValue43 Tryz.underlying43 (fun _ => by kernel_rfl) rfl)) ?_
  refine op_e (w_box (fun _=>rfl) (cs := #[_, _, _, _]) rfl) (fun _=>rfl) rfl rfl ?_
  rintro _ _ ⟨kp, rfl, rfl⟩
  refine op_v (p_assign (fun _=>rfl)) ?_
  refine ops_nil ?_
  refine nx_next ?_
  refine at_seq ?_
  refine at_nil ?_
  refine at_region ?_
  refine op_e (w_callR (vs := [_]) (fun _=>rfl) Tryz.call42 (fun _=>rfl) rfl (rhead_spec (ls := []) (row_nil _) (by decide) (by simp)) (by repeat (first | exact Pull.nil _ | (apply Pull.cons; (focus (repeat (first | exact One.here _ _ | apply One.there))))))) (fun _=>rfl) rfl rfl ?_
  rintro _ _ ⟨rfl, rfl⟩
  refine op_v (p_assign (fun _=>rfl)) ?_
  refine ops_nil ?_
  refine nx_next ?_
  refine at_seq ?_
  refine at_block ?_
  refine at_nil ?_
  refine at_slots (env' := [(8, _), (0, _), (4, _), (5, _), (7, _)]) [8, 0, 4, 5, 7] rfl (fun _=>rfl) ?_
  refine at_loopB (e0 := [(8, _)]) (H0 := _) (n := _) (fun m e H => ∃ (f : Nat) (rs : List (List UInt8)) (h : List UInt8) (sz : Nat) (v : Value) (sr : List Chunk), m = 0 + f ∧ (d.vi.length - sz < f ∧ sz ≤ d.vi.length ∧ h = headL zero32 rs ∧ rs.length ≤ sz ∧ (∀ r ∈ rs, r.length ≤ 65536) ∧ Row 9 v (rs.map strV) sr ∧ loadL d.vi f rs h sz = res) ∧ e = [(8, .string (str h))] ∧ H = [[(kp, .cells #[.pointer (some ⟨rp, 0, none⟩), v, .int .i64 (sz : Int), .bool false] 43 (0, 0))], sr]) (by exact ⟨d.vi.length + 1, [], zero32, 0, _, [], rfl, ⟨by omega, Nat.zero_le _, rfl, Nat.zero_le _, by simp, row_nil _, hres.symm⟩, rfl, rfl⟩) (by repeat (first | exact Pull.nil _ | (apply Pull.cons; (focus (repeat (first | exact One.here _ _ | apply One.there)))))) ?_
  rintro _ _ _ ⟨f, rs, h, sz, v, sr, rfl, ⟨hf, hz, hh, hn, hsh, hrow, hinv⟩, rfl, rfl⟩
  obtain ⟨gv, cv, rfl⟩ := hrow.form
  have h32 : h.length = 32 := by rw [hh]; exact headL_len rs zero32 rfl
  refine at_seq ?_
  refine at_seq ?_
  refine at_region ?_
  refine op_v (p_move (fun _=>rfl)) ?_
  refine op_v (p_nilChk (fun _=>rfl) rfl) ?_
  refine op_v (p_fieldAddr0 (off := 2) Tryz.underlying43 rfl rfl Tryz.sizeOf3 (fun _=>rfl)) ?_
  refine op_r (by repeat (first | exact Has.here _ | apply Has.there)) (p_load Tryz.isAgg3 (fun _=>rfl) (by rfl)) rfl rfl ?_
  refine op_v (p_move (fun _=>rfl)) ?_
  first | refine op_v (p_lss_nat (fun _=>rfl) (fun _=>rfl)) ?_ | refine op_v (p_lss (fun _=>rfl) (fun _=>rfl)) ?_
  refine op_v (p_move (fun _=>rfl)) ?_
  first | refine ops_split (t := 37) (fun _=>rfl) rfl (fun hlt => ?_) (fun hlt => ?_) | refine ops_split_bool (t := 37) (fun _=>rfl) rfl (fun hlt => ?_) (fun hlt => ?_)
  ·
   refine op_wg (fun _=>rfl) (p_move (fun _=>rfl)) rfl rfl ?_
   refine op_wg (fun _=>rfl) (p_move (fun _=>rfl)) rfl rfl ?_
   refine op_wg (fun _=>rfl) (p_nilChk (fun _=>rfl) rfl) rfl rfl ?_
   refine op_wg (fun _=>rfl) (p_fieldAddr0 (off := 2) Tryz.underlying43 rfl rfl Tryz.sizeOf3 (fun _=>rfl)) rfl rfl ?_
   refine op_rg (fun _=>rfl) (by repeat (first | exact Has.here _ | apply Has.there)) (p_load Tryz.isAgg3 (fun _=>rfl) (by rfl)) rfl rfl ?_
   (refine op_wg (fun _=>rfl) (p_index_str Tryz.underlying9 (fun _=>rfl) (fun _=>rfl) (byteAt_get _ _ ?_)) rfl rfl ?_; (focus (omega)))
   first | refine op_wg (fun _=>rfl) (p_neq_nat (n := 0) (fun _=>rfl) (fun _=>rfl)) rfl rfl ?_ | refine op_wg (fun _=>rfl) (p_neq (fun _=>rfl) (fun _=>rfl)) rfl rfl ?_
   refine op_v (p_pick_t (fun _=>rfl) (fun _=>rfl)) ?_
   refine ops_nil ?_
   refine nx_slots (env' := [(0, _), (4, _), (5, _), (7, _), (8, _), (45, _)]) [0, 4, 5, 7, 8, 45] rfl (fun _=>rfl) ?_
   refine nx_next ?_
   first | refine at_if (fun _=>rfl) (fun hb0 => ?_) (fun hb0 => ?_) | refine at_if_bool (fun _=>rfl) (fun hb0 => ?_) (fun hb0 => ?_)
   ·
    refine at_skip ?_
    refine nx_next ?_
    refine at_block ?_
    refine at_seq ?_
    obtain ⟨r, k, e, hRe, hRc⟩ := strR_cases d.vi (sz + 1)
    have hstr := rstring_spec d.vi (sz + 1) (by omega) (by omega)
    rw [hRe] at hstr
    refine at_region ?_
    refine op_v (p_move (fun _=>rfl)) ?_
    refine op_v (p_move (fun _=>rfl)) ?_
    refine op_v (p_nilChk (fun _=>rfl) rfl) ?_
    refine op_v (p_fieldAddr0 (off := 2) Tryz.underlying43 rfl rfl Tryz.sizeOf3 (fun _=>rfl)) ?_
    refine op_r (by repeat (first | exact Has.here _ | apply Has.there)) (p_load Tryz.isAgg3 (fun _=>rfl) (by rfl)) rfl rfl ?_
    first | (refine op_v (p_add_nat (n := 1) (fun _=>rfl) (fun _=>rfl) ?_) ?_; (focus (omega))) | (refine op_v (p_add (fun _=>rfl) (fun _=>rfl) (IntWalk.i64_in _ ?_)) ?_; (focus (omega)))
    refine op_e (w_callR (vs := [_, _]) (fun _=>rfl) Tryz.call76 (fun _=>rfl) rfl (hstr) (by repeat (first | exact Pull.nil _ | (apply Pull.cons; (focus (repeat (first | exact One.here _ _ | apply One.there))))))) (fun _=>rfl) rfl rfl ?_
    rintro _ _ ⟨rfl, rfl⟩
    refine op_v (p_move (fun _=>rfl)) ?_
    refine op_v (p_extract (fun _=>rfl) rfl) ?_
    refine op_v (p_extract (fun _=>rfl) rfl) ?_
    refine op_v (p_extract (fun _=>rfl) rfl) ?_
    refine op_v (p_assign (fun _=>rfl)) ?_
    refine op_v (p_assign (fun _=>rfl)) ?_
    refine op_v (p_assign (fun _=>rfl)) ?_
    refine ops_nil ?_
    refine nx_slots (env' := [(0, _), (4, _), (5, _), (7, _), (8, _), (9, _), (10, _), (11, _)]) [0, 4, 5, 7, 8, 9, 10, 11] rfl (fun _=>rfl) ?_
    refine nx_next ?_
    refine at_seq ?_
    refine at_seq ?_
    refine at_region ?_
    refine op_v (p_move (fun _=>rfl)) ?_
    refine op_v (p_move (fun _=>rfl)) ?_
    refine op_v (p_nilChk (fun _=>rfl) rfl) ?_
    refine op_v (p_fieldAddr0 (off := 2) Tryz.underlying43 rfl rfl Tryz.sizeOf3 (fun _=>rfl)) ?_
    refine op_r (by repeat (first | exact Has.here _ | apply Has.there)) (p_load Tryz.isAgg3 (fun _=>rfl) (by rfl)) rfl rfl ?_
    (refine op_v (p_index_str Tryz.underlying9 (fun _=>rfl) (fun _=>rfl) (byteAt_get _ _ ?_)) ?_; (focus (omega)))
    first | refine op_v (p_neq_nat (n := 1) (fun _=>rfl) (fun _=>rfl)) ?_ | refine op_v (p_neq (fun _=>rfl) (fun _=>rfl)) ?_
    refine op_v (p_move (fun _=>rfl)) ?_
    first | refine ops_split (t := 64) (fun _=>rfl) rfl (fun hb1 => ?_) (fun hb1 => ?_) | refine ops_split_bool (t := 64) (fun _=>rfl) rfl (fun hb1 => ?_) (fun hb1 => ?_)
    ·
     refine op_skip (fun _=>rfl) rfl ?_
     refine op_skip (fun _=>rfl) rfl ?_
     refine op_v (p_pick_t (fun _=>rfl) (fun _=>rfl)) ?_
     refine ops_nil ?_
     refine nx_next ?_
     refine at_then (fun _=>rfl) ?_
     refine at_seq ?_
     refine at_region ?_
     refine op_v (p_assign (fun _=>rfl)) ?_
     refine op_v (p_assign (fun _=>rfl)) ?_
     refine ops_nil ?_
     refine nx_slots (env' := [(2, _), (3, _)]) [2, 3] rfl (fun _=>rfl) ?_
     refine nx_next ?_
     refine at_ret ?_
     refine nx_thru (by intro h; cases h) ?_
     refine nx_block_ret ?_
     refine nx_thru (by intro h; cases h) ?_
     refine nx_block_ret ?_
     refine nx_thru (by intro h; cases h) ?_
     refine nx_end2 (H' := _) rfl Tryz.results49 (fun _=>rfl) (fun _=>rfl) (by exact .inl ⟨by first | exact load_bad1 hinv hf (by omega) (by omega) (by omega) | exact load_bad2 hinv hf (by omega) (by omega) (by omega) (hRc.resolve_left (fun h => he h.1)).2.1, rfl, rfl⟩)
    ·
     refine op_wg (fun _=>rfl) (p_move (fun _=>rfl)) rfl rfl ?_
     first | refine op_wg (fun _=>rfl) (p_neq_nat (n := 0) (fun _=>rfl) (fun _=>rfl)) rfl rfl ?_ | refine op_wg (fun _=>rfl) (p_neq (fun _=>rfl) (fun _=>rfl)) rfl rfl ?_
     refine op_v (p_pick_f (fun _=>rfl) (fun _=>rfl)) ?_
     refine ops_nil ?_
     refine nx_next ?_
     first | refine at_if (fun _=>rfl) (fun he => ?_) (fun he => ?_) | refine at_if_bool (fun _=>rfl) (fun he => ?_) (fun he => ?_)
     ·
      refine at_seq ?_
      refine at_region ?_
      refine op_v (p_assign (fun _=>rfl)) ?_
      refine op_v (p_assign (fun _=>rfl)) ?_
      refine ops_nil ?_
      refine nx_slots (env' := [(2, _), (3, _)]) [2, 3] rfl (fun _=>rfl) ?_
      refine nx_next ?_
      refine at_ret ?_
      refine nx_thru (by intro h; cases h) ?_
      refine nx_block_ret ?_
      refine nx_thru (by intro h; cases h) ?_
      refine nx_block_ret ?_
      refine nx_thru (by intro h; cases h) ?_
      refine nx_end2 (H' := _) rfl Tryz.results49 (fun _=>rfl) (fun _=>rfl) (by exact .inl ⟨by first | exact load_bad1 hinv hf (by omega) (by omega) (by omega) | exact load_bad2 hinv hf (by omega) (by omega) (by omega) (hRc.resolve_left (fun h => he h.1)).2.1, rfl, rfl⟩)
     ·
      have hd := (hRc.resolve_right (fun h => h.1 (by omega))).2
      have hda := decS_at hd
      have hat1 : d.vi[sz]? = some 1 := by
        rw [byte_get d.vi sz (by omega)]; exact congrArg some (UInt8.toNat_inj.1 (by have : (1 : UInt8).toNat = 1 := rfl; omega))
      refine at_skip ?_
      refine nx_next ?_
      refine at_seq ?_
      refine at_region ?_
      refine op_v (p_move (fun _=>rfl)) ?_
      refine op_v (p_move (fun _=>rfl)) ?_
      refine op_e (w_callR (vs := [_, _]) (fun _=>rfl) Tryz.call73 (fun _=>rfl) rfl (rchain_spec h r (by have := hda.2.2; omega)) (by repeat (first | exact Pull.nil _ | (apply Pull.cons; (focus (repeat (first | exact One.here _ _ | apply One.there))))))) (fun _=>rfl) rfl rfl ?_
      rintro _ _ ⟨rfl, rfl⟩
      refine op_v (p_assign (fun _=>rfl)) ?_
      refine ops_nil ?_
      refine nx_slots (env' := [(0, _), (4, _), (5, _), (7, _), (8, _), (9, _), (10, _)]) [0, 4, 5, 7, 8, 9, 10] rfl (fun _=>rfl) ?_
      refine nx_next ?_
      refine at_seq ?_
      refine at_seq ?_
      refine at_region ?_
      refine op_v (p_move (fun _=>rfl)) ?_
      first | (refine op_v (p_add_nat (n := 32) (fun _=>rfl) (fun _=>rfl) ?_) ?_; (focus (omega))) | (refine op_v (p_add (fun _=>rfl) (fun _=>rfl) (IntWalk.i64_in _ ?_)) ?_; (focus (omega)))
      refine op_v (p_move (fun _=>rfl)) ?_
      first | refine op_v (p_gtr_nat (fun _=>rfl) (fun _=>rfl)) ?_ | refine op_v (p_gtr (fun _=>rfl) (fun _=>rfl)) ?_
      refine op_v (p_move (fun _=>rfl)) ?_
      first | refine ops_split (t := 75) (fun _=>rfl) rfl (fun hk32 => ?_) (fun hk32 => ?_) | refine ops_split_bool (t := 75) (fun _=>rfl) rfl (fun hk32 => ?_) (fun hk32 => ?_)
      ·
       refine op_skip (fun _=>rfl) rfl ?_
       refine op_skip (fun _=>rfl) rfl ?_
       refine op_skip (fun _=>rfl) rfl ?_
       refine op_skip (fun _=>rfl) rfl ?_
       refine op_skip (fun _=>rfl) rfl ?_
       refine op_skip (fun _=>rfl) rfl ?_
       refine op_skip (fun _=>rfl) rfl ?_
       refine op_v (p_pick_t (fun _=>rfl) (fun _=>rfl)) ?_
       refine ops_nil ?_
       refine nx_slots (env' := [(0, _), (4, _), (5, _), (7, _), (8, _), (9, _), (10, _), (83, _)]) [0, 4, 5, 7, 8, 9, 10, 83] rfl (fun _=>rfl) ?_
       refine nx_next ?_
       refine at_then (fun _=>rfl) ?_
       refine at_seq ?_
       refine at_region ?_
       refine op_v (p_assign (fun _=>rfl)) ?_
       refine op_v (p_assign (fun _=>rfl)) ?_
       refine ops_nil ?_
       refine nx_next ?_
       refine at_ret ?_
       refine nx_thru (by intro h; cases h) ?_
       refine nx_block_ret ?_
       refine nx_thru (by intro h; cases h) ?_
       refine nx_block_ret ?_
       refine nx_thru (by intro h; cases h) ?_
       refine nx_end2 (H' := _) rfl Tryz.results49 (fun _=>rfl) (fun _=>rfl) (by exact .inl ⟨by first | exact load_bad3 hinv hf (by omega) (by omega) (by omega) hd (fun h => by omega) | exact load_bad3 hinv hf (by omega) (by omega) (by omega) hd (fun h9 => hne (by rw [hex, hse.1 h9.2])), rfl, rfl⟩)
      ·
       obtain ⟨hse, hlen⟩ := stored_eq h hd hat1 (by omega)
       have hex : (str d.vi).extract k (k + 32) = str ((d.vi.drop k).take 32) := extract_str d.vi k 32
       refine op_wg (fun _=>rfl) (p_move (fun _=>rfl)) rfl rfl ?_
       refine op_wg (fun _=>rfl) (p_move (fun _=>rfl)) rfl rfl ?_
       refine op_wg (fun _=>rfl) (p_move (fun _=>rfl)) rfl rfl ?_
       first | (refine op_wg (fun _=>rfl) (p_add_nat (n := 32) (fun _=>rfl) (fun _=>rfl) ?_) rfl rfl ?_; (focus (omega))) | (refine op_wg (fun _=>rfl) (p_add (fun _=>rfl) (fun _=>rfl) (IntWalk.i64_in _ ?_)) rfl rfl ?_; (focus (omega)))
       (refine op_wg (fun _=>rfl) (p_slice_str Tryz.underlying9 (fun _=>rfl) (fun _=>rfl) (fun _=>rfl) ?_ ?_) rfl rfl ?_; (focus (omega)); (focus (omega)))
       refine op_wg (fun _=>rfl) (p_move (fun _=>rfl)) rfl rfl ?_
       refine op_wg (fun _=>rfl) (p_neq_str (fun _=>rfl) (fun _=>rfl)) rfl rfl ?_
       refine op_v (p_pick_f (fun _=>rfl) (fun _=>rfl)) ?_
       refine ops_nil ?_
       refine nx_slots (env' := [(0, _), (4, _), (5, _), (7, _), (8, _), (9, _), (10, _), (83, _)]) [0, 4, 5, 7, 8, 9, 10, 83] rfl (fun _=>rfl) ?_
       refine nx_next ?_
       first | refine at_if (fun _=>rfl) (fun hne => ?_) (fun hne => ?_) | refine at_if_bool (fun _=>rfl) (fun hne => ?_) (fun hne => ?_)
       ·
        refine at_seq ?_
        refine at_region ?_
        refine op_v (p_assign (fun _=>rfl)) ?_
        refine op_v (p_assign (fun _=>rfl)) ?_
        refine ops_nil ?_
        refine nx_next ?_
        refine at_ret ?_
        refine nx_thru (by intro h; cases h) ?_
        refine nx_block_ret ?_
        refine nx_thru (by intro h; cases h) ?_
        refine nx_block_ret ?_
        refine nx_thru (by intro h; cases h) ?_
        refine nx_end2 (H' := _) rfl Tryz.results49 (fun _=>rfl) (fun _=>rfl) (by exact .inl ⟨by first | exact load_bad3 hinv hf (by omega) (by omega) (by omega) hd (fun h => by omega) | exact load_bad3 hinv hf (by omega) (by omega) (by omega) hd (fun h9 => hne (by rw [hex, hse.1 h9.2])), rfl, rfl⟩)
       ·
        have heq := hse.2 (str_inj (by rw [← hex]; exact Classical.not_not.1 hne))
        have hnext := load_next hinv hf (by omega) (by omega) (by omega) hd ⟨by omega, heq⟩
        refine at_skip ?_
        refine nx_next ?_
        refine at_seq ?_
        refine at_region ?_
        refine op_v (p_move (fun _=>rfl)) ?_
        refine op_v (p_move (fun _=>rfl)) ?_
        refine op_v (p_nilChk (fun _=>rfl) rfl) ?_
        refine op_v (p_fieldAddr0 (off := 1) Tryz.underlying43 rfl rfl Tryz.sizeOf22 (fun _=>rfl)) ?_
        refine op_r (by repeat (first | exact Has.here _ | apply Has.there)) (p_load Tryz.isAgg22 (fun _=>rfl) (by rfl)) rfl rfl ?_
        refine op_v (p_move (fun _=>rfl)) ?_
        refine op_e (w_buildSlice (vs := [_]) (cs := [_]) Tryz.underlying22 Tryz.sizeOf9 Tryz.zeroValue9 (fun _=>rfl) rfl rfl rfl rfl rfl) (fun _=>rfl) rfl rfl ?_
        rintro _ _ ⟨gb, rfl, rfl⟩
        refine op_e (w_append (by_ := 16) (news := [_]) Tryz.underlying22 (rfl : Tryz.prog.info? 9 = some Tryz.t9) rfl rfl rfl rfl (fun _=>rfl) hrow (fun _=>rfl) (by repeat (first | exact One.here _ _ | apply One.there)) (by repeat (first | exact Has.here _ | apply Has.there)) (by rfl) rfl (by simp [Value.oneCell']) (by decide) (by (simp only [List.length_map]; omega)) (by (simp only [List.length_map]; omega))) (fun _=>rfl) rfl rfl ?_
        rintro _ _ ⟨sq, hrq, rfl⟩
        obtain ⟨gq, cq, rfl⟩ := hrq.form
        refine op_v (p_nilChk (fun _=>rfl) rfl) ?_
        refine op_v (p_fieldAddr0 (off := 1) Tryz.underlying43 rfl rfl Tryz.sizeOf22 (fun _=>rfl)) ?_
        refine op_e (w_store Tryz.sizeOf22 (fun _=>rfl) (fun _=>rfl) rfl (by repeat (first | exact Upd.here _ | apply Upd.there)) (by rfl) (by first | decide | exact Nat.le_refl _ | (simp; done) | (simp; omega)) (by exact free_zero _)) (fun _=>rfl) rfl rfl ?_
        rintro _ _ ⟨rfl, rfl⟩
        refine ops_nil ?_
        refine nx_next ?_
        refine at_region ?_
        refine op_v (p_move (fun _=>rfl)) ?_
        refine op_v (p_move (fun _=>rfl)) ?_
        first | (refine op_v (p_add_nat (n := 32) (fun _=>rfl) (fun _=>rfl) ?_) ?_; (focus (omega))) | (refine op_v (p_add (fun _=>rfl) (fun _=>rfl) (IntWalk.i64_in _ ?_)) ?_; (focus (omega)))
        refine op_v (p_nilChk (fun _=>rfl) rfl) ?_
        refine op_v (p_fieldAddr0 (off := 2) Tryz.underlying43 rfl rfl Tryz.sizeOf3 (fun _=>rfl)) ?_
        refine op_e (w_store Tryz.sizeOf3 (fun _=>rfl) (fun _=>rfl) rfl (by repeat (first | exact Upd.here _ | apply Upd.there)) (by rfl) (by first | decide | exact Nat.le_refl _ | (simp; done) | (simp; omega)) (by exact free_zero _)) (fun _=>rfl) rfl rfl ?_
        rintro _ _ ⟨rfl, rfl⟩
        refine ops_nil ?_
        refine nx_slots (env' := [(0, _), (4, _), (5, _), (7, _), (8, _)]) [0, 4, 5, 7, 8] rfl (fun _=>rfl) ?_
        refine nx_block_normal ?_
        refine nx_slots (env' := [(8, _), (0, _), (4, _), (5, _), (7, _)]) [8, 0, 4, 5, 7] rfl (fun _=>rfl) ?_
        refine nx_againB (e' := [(8, _)]) (m := _) (H' := _) (by
              exact ⟨f - 1, rs ++ [r], chainS h r, k + 32, _, _, rfl, ⟨by omega, by omega, by rw [hh, headL_snoc], by rw [List.length_append, List.length_singleton]; omega, by
                intro x hx; rcases List.mem_append.1 hx with h9 | h9
                · exact hsh x h9
                · rw [List.mem_singleton.1 h9]; exact hda.2.2, by rw [List.map_append]; exact hrq, by rw [hlen] at hnext; exact hnext⟩, rfl, rfl⟩)
   ·
    have hend := load_end hinv (.inr (by omega))
    refine at_exit ?_
    refine nx_thru (by intro h; cases h) ?_
    refine nx_thru (by intro h; cases h) ?_
    refine nx_block_exit ?_
    refine nx_next ?_
    refine at_seq ?_
    refine at_region ?_
    refine op_v (p_move (fun _=>rfl)) ?_
    refine op_v (p_move (fun _=>rfl)) ?_
    refine op_v (p_nilChk (fun _=>rfl) rfl) ?_
    refine op_v (p_fieldAddr0 (off := 2) Tryz.underlying43 rfl rfl Tryz.sizeOf3 (fun _=>rfl)) ?_
    refine op_r (by repeat (first | exact Has.here _ | apply Has.there)) (p_load Tryz.isAgg3 (fun _=>rfl) (by rfl)) rfl rfl ?_
    first | (refine op_v (p_sub_nat (fun _=>rfl) (fun _=>rfl) ?_ ?_) ?_; (focus (omega)); (focus (omega))) | (refine op_v (p_sub (fun _=>rfl) (fun _=>rfl) (IntWalk.i64_in _ ?_)) ?_; (focus (omega)))
    refine op_e (w_makeSlice (by_ := 1) Tryz.underlying39 (rfl : Tryz.prog.info? 5 = some Tryz.t5) rfl rfl rfl rfl (fun _=>rfl) (fun _=>rfl) ?_ ?_ ?_) (fun _=>rfl) rfl rfl ?_
    (focus (omega))
    (focus (omega))
    (focus (omega))
    rintro _ _ ⟨b4, rfl, rfl⟩
    refine op_r (by repeat (first | exact Has.here _ | apply Has.there)) (p_conv_bytes_str Tryz.underlying39 Tryz.underlying5 Tryz.underlying9 (fun _=>rfl) (by exact (show (_ = List.map u8v (List.replicate (d.vi.length - sz) 0)) ∧ _ from ⟨by simp [u8v], by simp⟩))) rfl rfl ?_
    refine op_v (p_assign (fun _=>rfl)) ?_
    refine ops_nil ?_
    refine nx_next ?_
    refine at_seq ?_
    refine at_seq ?_
    refine at_region ?_
    refine op_v (p_move (fun _=>rfl)) ?_
    refine op_v (p_move (fun _=>rfl)) ?_
    refine op_v (p_nilChk (fun _=>rfl) rfl) ?_
    refine op_v (p_fieldAddr0 (off := 2) Tryz.underlying43 rfl rfl Tryz.sizeOf3 (fun _=>rfl)) ?_
    refine op_r (by repeat (first | exact Has.here _ | apply Has.there)) (p_load Tryz.isAgg3 (fun _=>rfl) (by rfl)) rfl rfl ?_
    refine op_w (p_slice_drop Tryz.underlying9 (fun _=>rfl) (fun _=>rfl) hz) rfl rfl ?_
    refine op_v (p_move (fun _=>rfl)) ?_
    refine op_v (p_neq_str (fun _=>rfl) (fun _=>rfl)) ?_
    refine ops_nil ?_
    refine nx_slots (env' := [(0, _), (7, _), (12, _), (114, _)]) [0, 7, 12, 114] rfl (fun _=>rfl) ?_
    refine nx_next ?_
    first | refine at_if (fun _=>rfl) (fun hta => ?_) (fun hta => ?_) | refine at_if_bool (fun _=>rfl) (fun hta => ?_) (fun hta => ?_)
    ·
     have hne0 : d.vi.drop sz ≠ List.replicate (d.vi.length - sz) 0 := fun e => hta (by rw [e])
     have hlt9 : sz < d.vi.length := by
       rcases Nat.lt_or_ge sz d.vi.length with h9 | h9
       · exact h9
       · exact absurd (by rw [List.drop_of_length_le h9, show d.vi.length - sz = 0 by omega]; rfl) hne0
     refine at_seq ?_
     refine at_region ?_
     refine op_v (p_move (fun _=>rfl)) ?_
     refine op_v (p_move (fun _=>rfl)) ?_
     refine op_v (p_nilChk (fun _=>rfl) rfl) ?_
     refine op_v (p_fieldAddr0 (off := 2) Tryz.underlying43 rfl rfl Tryz.sizeOf3 (fun _=>rfl)) ?_
     refine op_r (by repeat (first | exact Has.here _ | apply Has.there)) (p_load Tryz.isAgg3 (fun _=>rfl) (by rfl)) rfl rfl ?_
     refine op_v (p_move (fun _=>rfl)) ?_
     refine ops_eff (fun _=>rfl) (fits_of rfl) rfl (w_call (vs := [_, _, _]) (fun _=>rfl) Tryz.call14 (fun _=>rfl) rfl (rd_write d rp sd hR sz (List.replicate (d.vi.length - sz) 0) (by rw [List.length_replicate]; omega) (by omega)) (by repeat (first | exact Pull.nil _ | (apply Pull.cons; (focus (repeat (first | exact One.here _ _ | apply One.there))))))) ?_ no_pan
     rintro _ _ ⟨_, ⟨s1, rfl, rfl, hR1⟩, rfl⟩
     obtain ⟨p1, hp1⟩ : ∃ p, p = d.write sz (List.replicate (d.vi.length - sz) 0) := ⟨_, rfl⟩
     have hpd := write_pend d sz (List.replicate (d.vi.length - sz) 0)
     have hzero : d.zero sz = if p1.1 ≠ 0 then p1 else p1.2.sync := by rw [hp1]; rfl
     rw [← hp1] at hR1 hpd ⊢
     refine op_v (p_assign (fun _=>rfl)) ?_
     refine ops_nil ?_
     refine nx_next ?_
     refine at_seq ?_
     refine at_seq ?_
     refine at_region ?_
     refine op_v (p_move (fun _=>rfl)) ?_
     first | refine op_v (p_eql_nat (n := 0) (fun _=>rfl) (fun _=>rfl)) ?_ | refine op_v (p_eql (fun _=>rfl) (fun _=>rfl)) ?_
     refine ops_nil ?_
     refine nx_next ?_
     first | refine at_if (fun _=>rfl) (fun hq1 => ?_) (fun hq1 => ?_) | refine at_if_bool (fun _=>rfl) (fun hq1 => ?_) (fun hq1 => ?_)
     ·
      rw [if_neg (fun h => h hq1)] at hzero
      refine at_region ?_
      refine op_v (p_move (fun _=>rfl)) ?_
      refine ops_eff (fun _=>rfl) (fits_of rfl) rfl (w_call (vs := [_]) (fun _=>rfl) Tryz.call44 (fun _=>rfl) rfl (rd_sync p1.2 rp s1 hR1 (by omega)) (by repeat (first | exact Pull.nil _ | (apply Pull.cons; (focus (repeat (first | exact One.here _ _ | apply One.there))))))) ?_ no_pan
      rintro _ _ ⟨_, ⟨s2, rfl, rfl, hR2⟩, rfl⟩
      rw [← hzero] at hR2 ⊢
      refine op_v (p_assign (fun _=>rfl)) ?_
      refine ops_nil ?_
      refine nx_slots (env' := [(6, _), (7, _)]) [6, 7] rfl (fun _=>rfl) ?_
      refine nx_next ?_
      refine at_seq ?_
      refine at_region ?_
      refine op_v (p_move (fun _=>rfl)) ?_
      first | refine op_v (p_neq_nat (n := 0) (fun _=>rfl) (fun _=>rfl)) ?_ | refine op_v (p_neq (fun _=>rfl) (fun _=>rfl)) ?_
      refine ops_nil ?_
      refine nx_next ?_
      first | refine at_if (fun _=>rfl) (fun hq2 => ?_) (fun hq2 => ?_) | refine at_if_bool (fun _=>rfl) (fun hq2 => ?_) (fun hq2 => ?_)
      ·
       refine at_seq ?_
       refine at_region ?_
       refine op_v (p_move (fun _=>rfl)) ?_
       refine op_v (p_assign (fun _=>rfl)) ?_
       refine op_v (p_assign (fun _=>rfl)) ?_
       refine ops_nil ?_
       refine nx_next ?_
       refine at_ret ?_
       refine nx_thru (by intro h; cases h) ?_
       refine nx_end2 (H' := _) rfl Tryz.results49 (fun _=>rfl) (fun _=>rfl) (by exact .inr ⟨rs, h, sz, _, sr, kp, hend, hh, hz, hn, hsh, hrow, .inr ⟨hne0, _, by first | exact hR2 | exact hR1, .inr ⟨hq2, rfl, rfl⟩⟩⟩)
      ·
       refine at_skip ?_
       refine nx_next ?_
       refine at_seq ?_
       refine at_region ?_
       refine op_v (p_move (fun _=>rfl)) ?_
       refine op_v (p_assign (fun _=>rfl)) ?_
       refine op_v (p_assign (fun _=>rfl)) ?_
       refine ops_nil ?_
       refine nx_next ?_
       refine at_ret ?_
       refine nx_end2 (H' := _) rfl Tryz.results49 (fun _=>rfl) (fun _=>rfl) (by first | exact .inr ⟨rs, h, sz, _, sr, kp, hend, hh, hz, hn, hsh, hrow, .inl ⟨heq0, rfl, rfl⟩⟩ | exact .inr ⟨rs, h, sz, _, sr, kp, hend, hh, hz, hn, hsh, hrow, .inr ⟨hne0, _, by first | exact hR2 | exact hR1, .inl ⟨Classical.not_not.1 hq2, rfl, rfl⟩⟩⟩)
     ·
      rw [if_pos hq1] at hzero
      rw [← hzero] at hR1 hq1 ⊢
      refine at_skip ?_
      refine nx_next ?_
      refine at_seq ?_
      refine at_region ?_
      refine op_v (p_move (fun _=>rfl)) ?_
      first | refine op_v (p_neq_nat (n := 0) (fun _=>rfl) (fun _=>rfl)) ?_ | refine op_v (p_neq (fun _=>rfl) (fun _=>rfl)) ?_
      refine ops_nil ?_
      refine nx_next ?_
      first | refine at_if (fun _=>rfl) (fun hq2 => ?_) (fun hq2 => ?_) | refine at_if_bool (fun _=>rfl) (fun hq2 => ?_) (fun hq2 => ?_)
      ·
       refine at_seq ?_
       refine at_region ?_
       refine op_v (p_move (fun _=>rfl)) ?_
       refine op_v (p_assign (fun _=>rfl)) ?_
       refine op_v (p_assign (fun _=>rfl)) ?_
       refine ops_nil ?_
       refine nx_slots (env' := [(2, _), (3, _)]) [2, 3] rfl (fun _=>rfl) ?_
       refine nx_next ?_
       refine at_ret ?_
       refine nx_thru (by intro h; cases h) ?_
       refine nx_end2 (H' := _) rfl Tryz.results49 (fun _=>rfl) (fun _=>rfl) (by exact .inr ⟨rs, h, sz, _, sr, kp, hend, hh, hz, hn, hsh, hrow, .inr ⟨hne0, _, by first | exact hR2 | exact hR1, .inr ⟨hq2, rfl, rfl⟩⟩⟩)
      ·
       refine at_skip ?_
       refine nx_next ?_
       refine at_seq ?_
       refine at_region ?_
       refine op_v (p_move (fun _=>rfl)) ?_
       refine op_v (p_assign (fun _=>rfl)) ?_
       refine op_v (p_assign (fun _=>rfl)) ?_
       refine ops_nil ?_
       refine nx_slots (env' := [(2, _), (3, _)]) [2, 3] rfl (fun _=>rfl) ?_
       refine nx_next ?_
       refine at_ret ?_
       refine nx_end2 (H' := _) rfl Tryz.results49 (fun _=>rfl) (fun _=>rfl) (by first | exact .inr ⟨rs, h, sz, _, sr, kp, hend, hh, hz, hn, hsh, hrow, .inl ⟨heq0, rfl, rfl⟩⟩ | exact .inr ⟨rs, h, sz, _, sr, kp, hend, hh, hz, hn, hsh, hrow, .inr ⟨hne0, _, by first | exact hR2 | exact hR1, .inl ⟨Classical.not_not.1 hq2, rfl, rfl⟩⟩⟩)
    ·
     have heq0 : d.vi.drop sz = List.replicate (d.vi.length - sz) 0 := str_inj (Classical.not_not.1 hta)
     refine at_skip ?_
     refine nx_next ?_
     refine at_seq ?_
     refine at_region ?_
     refine op_v (p_move (fun _=>rfl)) ?_
     refine op_v (p_assign (fun _=>rfl)) ?_
     refine op_v (p_assign (fun _=>rfl)) ?_
     refine ops_nil ?_
     refine nx_next ?_
     refine at_ret ?_
     refine nx_end2 (H' := _) rfl Tryz.results49 (fun _=>rfl) (fun _=>rfl) (by first | exact .inr ⟨rs, h, sz, _, sr, kp, hend, hh, hz, hn, hsh, hrow, .inl ⟨heq0, rfl, rfl⟩⟩ | exact .inr ⟨rs, h, sz, _, sr, kp, hend, hh, hz, hn, hsh, hrow, .inr ⟨hne0, _, by first | exact hR2 | exact hR1, .inl ⟨Classical.not_not.1 hq2, rfl, rfl⟩⟩⟩)
  ·
   have hend := load_end hinv (.inl (by omega))
   refine op_skip (fun _=>rfl) rfl ?_
   refine op_skip (fun _=>rfl) rfl ?_
   refine op_skip (fun _=>rfl) rfl ?_
   refine op_skip (fun _=>rfl) rfl ?_
   refine op_skip (fun _=>rfl) rfl ?_
   refine op_skip (fun _=>rfl) rfl ?_
   refine op_skip (fun _=>rfl) rfl ?_
   refine op_v (p_pick_f (fun _=>rfl) (fun _=>rfl)) ?_
   refine ops_nil ?_
   refine nx_slots (env' := [(0, _), (4, _), (5, _), (7, _), (8, _), (45, _)]) [0, 4, 5, 7, 8, 45] rfl (fun _=>rfl) ?_
   refine nx_next ?_
   refine at_else (fun _=>rfl) ?_
   refine at_exit ?_
   refine nx_thru (by intro h; cases h) ?_
   refine nx_thru (by intro h; cases h) ?_
   refine nx_block_exit ?_
   refine nx_next ?_
   refine at_seq ?_
   refine at_region ?_
   refine op_v (p_move (fun _=>rfl)) ?_
   refine op_v (p_move (fun _=>rfl)) ?_
   refine op_v (p_nilChk (fun _=>rfl) rfl) ?_
   refine op_v (p_fieldAddr0 (off := 2) Tryz.underlying43 rfl rfl Tryz.sizeOf3 (fun _=>rfl)) ?_
   refine op_r (by repeat (first | exact Has.here _ | apply Has.there)) (p_load Tryz.isAgg3 (fun _=>rfl) (by rfl)) rfl rfl ?_
   first | (refine op_v (p_sub_nat (fun _=>rfl) (fun _=>rfl) ?_ ?_) ?_; (focus (omega)); (focus (omega))) | (refine op_v (p_sub (fun _=>rfl) (fun _=>rfl) (IntWalk.i64_in _ ?_)) ?_; (focus (omega)))
   refine op_e (w_makeSlice (by_ := 1) Tryz.underlying39 (rfl : Tryz.prog.info? 5 = some Tryz.t5) rfl rfl rfl rfl (fun _=>rfl) (fun _=>rfl) ?_ ?_ ?_) (fun _=>rfl) rfl rfl ?_
   (focus (omega))
   (focus (omega))
   (focus (omega))
   rintro _ _ ⟨b5, rfl, rfl⟩
   refine op_r (by repeat (first | exact Has.here _ | apply Has.there)) (p_conv_bytes_str Tryz.underlying39 Tryz.underlying5 Tryz.underlying9 (fun _=>rfl) (by exact (show (_ = List.map u8v (List.replicate (d.vi.length - sz) 0)) ∧ _ from ⟨by simp [u8v], by simp⟩))) rfl rfl ?_
   refine op_v (p_assign (fun _=>rfl)) ?_
   refine ops_nil ?_
   refine nx_next ?_
   refine at_seq ?_
   refine at_seq ?_
   refine at_region ?_
   refine op_v (p_move (fun _=>rfl)) ?_
   refine op_v (p_move (fun _=>rfl)) ?_
   refine op_v (p_nilChk (fun _=>rfl) rfl) ?_
   refine op_v (p_fieldAddr0 (off := 2) Tryz.underlying43 rfl rfl Tryz.sizeOf3 (fun _=>rfl)) ?_
   refine op_r (by repeat (first | exact Has.here _ | apply Has.there)) (p_load Tryz.isAgg3 (fun _=>rfl) (by rfl)) rfl rfl ?_
   refine op_w (p_slice_drop Tryz.underlying9 (fun _=>rfl) (fun _=>rfl) hz) rfl rfl ?_
   refine op_v (p_move (fun _=>rfl)) ?_
   refine op_v (p_neq_str (fun _=>rfl) (fun _=>rfl)) ?_
   refine ops_nil ?_
   refine nx_slots (env' := [(0, _), (7, _), (12, _), (114, _)]) [0, 7, 12, 114] rfl (fun _=>rfl) ?_
   refine nx_next ?_
   first | refine at_if (fun _=>rfl) (fun hta => ?_) (fun hta => ?_) | refine at_if_bool (fun _=>rfl) (fun hta => ?_) (fun hta => ?_)
   ·
    have hne0 : d.vi.drop sz ≠ List.replicate (d.vi.length - sz) 0 := fun e => hta (by rw [e])
    have hlt9 : sz < d.vi.length := by
      rcases Nat.lt_or_ge sz d.vi.length with h9 | h9
      · exact h9
      · exact absurd (by rw [List.drop_of_length_le h9, show d.vi.length - sz = 0 by omega]; rfl) hne0
    refine at_seq ?_
    refine at_region ?_
    refine op_v (p_move (fun _=>rfl)) ?_
    refine op_v (p_move (fun _=>rfl)) ?_
    refine op_v (p_nilChk (fun _=>rfl) rfl) ?_
    refine op_v (p_fieldAddr0 (off := 2) Tryz.underlying43 rfl rfl Tryz.sizeOf3 (fun _=>rfl)) ?_
    refine op_r (by repeat (first | exact Has.here _ | apply Has.there)) (p_load Tryz.isAgg3 (fun _=>rfl) (by rfl)) rfl rfl ?_
    refine op_v (p_move (fun _=>rfl)) ?_
    refine ops_eff (fun _=>rfl) (fits_of rfl) rfl (w_call (vs := [_, _, _]) (fun _=>rfl) Tryz.call14 (fun _=>rfl) rfl (rd_write d rp sd hR sz (List.replicate (d.vi.length - sz) 0) (by rw [List.length_replicate]; omega) (by omega)) (by repeat (first | exact Pull.nil _ | (apply Pull.cons; (focus (repeat (first | exact One.here _ _ | apply One.there))))))) ?_ no_pan
    rintro _ _ ⟨_, ⟨s1, rfl, rfl, hR1⟩, rfl⟩
    obtain ⟨p1, hp1⟩ : ∃ p, p = d.write sz (List.replicate (d.vi.length - sz) 0) := ⟨_, rfl⟩
    have hpd := write_pend d sz (List.replicate (d.vi.length - sz) 0)
    have hzero : d.zero sz = if p1.1 ≠ 0 then p1 else p1.2.sync := by rw [hp1]; rfl
    rw [← hp1] at hR1 hpd ⊢
    refine op_v (p_assign (fun _=>rfl)) ?_
    refine ops_nil ?_
    refine nx_next ?_
    refine at_seq ?_
    refine at_seq ?_
    refine at_region ?_
    refine op_v (p_move (fun _=>rfl)) ?_
    first | refine op_v (p_eql_nat (n := 0) (fun _=>rfl) (fun _=>rfl)) ?_ | refine op_v (p_eql (fun _=>rfl) (fun _=>rfl)) ?_
    refine ops_nil ?_
    refine nx_next ?_
    first | refine at_if (fun _=>rfl) (fun hq1 => ?_) (fun hq1 => ?_) | refine at_if_bool (fun _=>rfl) (fun hq1 => ?_) (fun hq1 => ?_)
    ·
     rw [if_neg (fun h => h hq1)] at hzero
     refine at_region ?_
     refine op_v (p_move (fun _=>rfl)) ?_
     refine ops_eff (fun _=>rfl) (fits_of rfl) rfl (w_call (vs := [_]) (fun _=>rfl) Tryz.call44 (fun _=>rfl) rfl (rd_sync p1.2 rp s1 hR1 (by omega)) (by repeat (first | exact Pull.nil _ | (apply Pull.cons; (focus (repeat (first | exact One.here _ _ | apply One.there))))))) ?_ no_pan
     rintro _ _ ⟨_, ⟨s2, rfl, rfl, hR2⟩, rfl⟩
     rw [← hzero] at hR2 ⊢
     refine op_v (p_assign (fun _=>rfl)) ?_
     refine ops_nil ?_
     refine nx_slots (env' := [(6, _), (7, _)]) [6, 7] rfl (fun _=>rfl) ?_
     refine nx_next ?_
     refine at_seq ?_
     refine at_region ?_
     refine op_v (p_move (fun _=>rfl)) ?_
     first | refine op_v (p_neq_nat (n := 0) (fun _=>rfl) (fun _=>rfl)) ?_ | refine op_v (p_neq (fun _=>rfl) (fun _=>rfl)) ?_
     refine ops_nil ?_
     refine nx_next ?_
     first | refine at_if (fun _=>rfl) (fun hq2 => ?_) (fun hq2 => ?_) | refine at_if_bool (fun _=>rfl) (fun hq2 => ?_) (fun hq2 => ?_)
     ·
      refine at_seq ?_
      refine at_region ?_
      refine op_v (p_move (fun _=>rfl)) ?_
      refine op_v (p_assign (fun _=>rfl)) ?_
      refine op_v (p_assign (fun _=>rfl)) ?_
      refine ops_nil ?_
      refine nx_next ?_
      refine at_ret ?_
      refine nx_thru (by intro h; cases h) ?_
      refine nx_end2 (H' := _) rfl Tryz.results49 (fun _=>rfl) (fun _=>rfl) (by exact .inr ⟨rs, h, sz, _, sr, kp, hend, hh, hz, hn, hsh, hrow, .inr ⟨hne0, _, by first | exact hR2 | exact hR1, .inr ⟨hq2, rfl, rfl⟩⟩⟩)
     ·
      refine at_skip ?_
      refine nx_next ?_
      refine at_seq ?_
      refine at_region ?_
      refine op_v (p_move (fun _=>rfl)) ?_
      refine op_v (p_assign (fun _=>rfl)) ?_
      refine op_v (p_assign (fun _=>rfl)) ?_
      refine ops_nil ?_
      refine nx_next ?_
      refine at_ret ?_
      refine nx_end2 (H' := _) rfl Tryz.results49 (fun _=>rfl) (fun _=>rfl) (by first | exact .inr ⟨rs, h, sz, _, sr, kp, hend, hh, hz, hn, hsh, hrow, .inl ⟨heq0, rfl, rfl⟩⟩ | exact .inr ⟨rs, h, sz, _, sr, kp, hend, hh, hz, hn, hsh, hrow, .inr ⟨hne0, _, by first | exact hR2 | exact hR1, .inl ⟨Classical.not_not.1 hq2, rfl, rfl⟩⟩⟩)
    ·
     rw [if_pos hq1] at hzero
     rw [← hzero] at hR1 hq1 ⊢
     refine at_skip ?_
     refine nx_next ?_
     refine at_seq ?_
     refine at_region ?_
     refine op_v (p_move (fun _=>rfl)) ?_
     first | refine op_v (p_neq_nat (n := 0) (fun _=>rfl) (fun _=>rfl)) ?_ | refine op_v (p_neq (fun _=>rfl) (fun _=>rfl)) ?_
     refine ops_nil ?_
     refine nx_next ?_
     first | refine at_if (fun _=>rfl) (fun hq2 => ?_) (fun hq2 => ?_) | refine at_if_bool (fun _=>rfl) (fun hq2 => ?_) (fun hq2 => ?_)
     ·
      refine at_seq ?_
      refine at_region ?_
      refine op_v (p_move (fun _=>rfl)) ?_
      refine op_v (p_assign (fun _=>rfl)) ?_
      refine op_v (p_assign (fun _=>rfl)) ?_
      refine ops_nil ?_
      refine nx_slots (env' := [(2, _), (3, _)]) [2, 3] rfl (fun _=>rfl) ?_
      refine nx_next ?_
      refine at_ret ?_
      refine nx_thru (by intro h; cases h) ?_
      refine nx_end2 (H' := _) rfl Tryz.results49 (fun _=>rfl) (fun _=>rfl) (by exact .inr ⟨rs, h, sz, _, sr, kp, hend, hh, hz, hn, hsh, hrow, .inr ⟨hne0, _, by first | exact hR2 | exact hR1, .inr ⟨hq2, rfl, rfl⟩⟩⟩)
     ·
      refine at_skip ?_
      refine nx_next ?_
      refine at_seq ?_
      refine at_region ?_
      refine op_v (p_move (fun _=>rfl)) ?_
      refine op_v (p_assign (fun _=>rfl)) ?_
      refine op_v (p_assign (fun _=>rfl)) ?_
      refine ops_nil ?_
      refine nx_slots (env' := [(2, _), (3, _)]) [2, 3] rfl (fun _=>rfl) ?_
      refine nx_next ?_
      refine at_ret ?_
      refine nx_end2 (H' := _) rfl Tryz.results49 (fun _=>rfl) (fun _=>rfl) (by first | exact .inr ⟨rs, h, sz, _, sr, kp, hend, hh, hz, hn, hsh, hrow, .inl ⟨heq0, rfl, rfl⟩⟩ | exact .inr ⟨rs, h, sz, _, sr, kp, hend, hh, hz, hn, hsh, hrow, .inr ⟨hne0, _, by first | exact hR2 | exact hR1, .inl ⟨Classical.not_not.1 hq2, rfl, rfl⟩⟩⟩)
   ·
    have heq0 : d.vi.drop sz = List.replicate (d.vi.length - sz) 0 := str_inj (Classical.not_not.1 hta)
    refine at_skip ?_
    refine nx_next ?_
    refine at_seq ?_
    refine at_region ?_
    refine op_v (p_move (fun _=>rfl)) ?_
    refine op_v (p_assign (fun _=>rfl)) ?_
    refine op_v (p_assign (fun _=>rfl)) ?_
    refine ops_nil ?_
    refine nx_next ?_
    refine at_ret ?_
    refine nx_end2 (H' := _) rfl Tryz.results49 (fun _=>rfl) (fun _=>rfl) (by first | exact .inr ⟨rs, h, sz, _, sr, kp, hend, hh, hz, hn, hsh, hrow, .inl ⟨heq0, rfl, rfl⟩⟩ | exact .inr ⟨rs, h, sz, _, sr, kp, hend, hh, hz, hn, hsh, hrow, .inr ⟨hne0, _, by first | exact hR2 | exact hR1, .inl ⟨Classical.not_not.1 hq2, rfl, rfl⟩⟩⟩)

theorem rroom_st {d : DiskS} {rp : Nat} {sd : List Chunk} (hR : RdR d rp sd) (kp sz : Nat) (v bv : Value) (hz : sz ≤ 4194304) : DoesR Tryz.prog 19 #[.pointer (some ⟨kp, 0, none⟩)] [[(kp, .cells #[.pointer (some ⟨rp, 0, none⟩), v, .int .i64 (sz : Int), bv] 43 (0, 0))], sd] (.int .i64 ((d.vi.length : Int) - (sz : Int))) := by
  obtain ⟨hok, hco, v0, pv0, sv0, sp0, hr0, hp0, rfl⟩ := hR
  obtain ⟨b0, c0, hv0⟩ := hr0.form
  rw [List.length_map, hok.1] at hv0
  subst hv0
  have h4 : d.vi.length ≤ 4194304 := hok.2.2.1
  refine does_mono (does_frame (rroom_spec kp rp sz v (.int .i64 (d.left : Int)) .nilFunc pv0 (.bool d.off) bv b0 d.vi.length c0 hz h4) [sv0 ++ sp0] (by simp)) ?_
  rintro r _ ⟨H2, ⟨rfl, rfl⟩, rfl⟩
  exact ⟨_, ⟨rfl, rfl⟩, by simp⟩

theorem rappend_main (kp rp sz : Nat) (v lv : Value) (rs ls : List (List UInt8)) (sr sl sd : List Chunk) (h : List UInt8) (d : DiskS)
    (hrow : Row 9 v (rs.map strV) sr) (hl : Row 9 lv (ls.map strV) sl) (hh : h = headL zero32 rs) (hz : sz ≤ d.vi.length) (hn : rs.length ≤ 4194304) (hsh : ∀ r ∈ rs, r.length ≤ 65536) (hshort : ∀ r ∈ ls, r.length ≤ 65536) (hls : ls.length ≤ 1000000) (hR : RdR d rp sd) (hk : d.pend.length ≤ 999990) (q : Int × JrS × DiskS) (hq : q = JrS.append ⟨rs, h, sz, false⟩ d ls) :
    Does Tryz.prog 10 #[.pointer (some ⟨kp, 0, none⟩), lv] [[(kp, .cells #[.pointer (some ⟨rp, 0, none⟩), v, .int .i64 (sz : Int), .bool false] 43 (0, 0))], sr, sl, sd] (fun r H' => ∃ v' sr' s', r = .int .i64 q.1 ∧ Row 9 v' (q.2.1.rs.map strV) sr' ∧ RdR q.2.2 rp s' ∧ H' = [[(kp, .cells #[.pointer (some ⟨rp, 0, none⟩), v', .int .i64 (q.2.1.sz : Int), .bool q.2.1.br] 43 (0, 0))], sr', sl, s']) := by
 have hvi : d.vi.length ≤ 4194304 := hR.1.2.2.1
 have hany : ls.any isLong = false := isLong_none hshort
 unfold JrS.append at hq
 rw [if_neg (by rw [hany]; simp)] at hq
 simp only at hq
 obtain ⟨gv, cv, rfl⟩ := hrow.form
 obtain ⟨gl, cl, rfl⟩ := hl.form
 have h32 : h.length = 32 := by rw [hh]; exact headL_len rs zero32 rfl
 have hml : maxLen = 9223372036854775807 := rfl
 refine spec_enter Tryz.func10 rfl Tryz.ntmps10 rfl ?_
 intro u R
 refine at_slots (env' := [(0, _), (1, _)]) [0, 1] rfl (fun _=>rfl) ?_
 refine at_seq ?_
 refine at_region ?_
 refine op_v (p_assign (fun _=>rfl)) ?_
 refine ops_nil ?_
 refine nx_next ?_
 refine at_seq ?_
 refine at_seq ?_
 refine at_region ?_
 refine op_v (p_move (fun _=>rfl)) ?_
 refine op_v (p_nilChk (fun _=>rfl) rfl) ?_
 refine op_v (p_fieldAddr0 (off := 3) Tryz.underlying43 rfl rfl Tryz.sizeOf4 (fun _=>rfl)) ?_
 refine op_r (by repeat (first | exact Has.here _ | apply Has.there)) (p_load Tryz.isAgg4 (fun _=>rfl) (by rfl)) rfl rfl ?_
 refine ops_nil ?_
 refine nx_next ?_
 refine at_if_bool (fun _=>rfl) (fun hc1 => ?_) (fun hc1 => ?_)
 ·
  cases hc1
 ·
  refine at_skip ?_
  refine nx_next ?_
  refine at_seq ?_
  refine at_region ?_
  refine op_v (p_assign (fun _=>rfl)) ?_
  refine ops_nil ?_
  refine nx_next ?_
  refine at_seq ?_
  refine at_region ?_
  refine op_v (p_move (fun _=>rfl)) ?_
  refine op_v (p_nilChk (fun _=>rfl) rfl) ?_
  refine op_v (p_fieldAddr0 (off := 1) Tryz.underlying43 rfl rfl Tryz.sizeOf22 (fun _=>rfl)) ?_
  refine op_r (by repeat (first | exact Has.here _ | apply Has.there)) (p_load Tryz.isAgg22 (fun _=>rfl) (by rfl)) rfl rfl ?_
  refine op_e (w_callR (vs := [_]) (fun _=>rfl) Tryz.call42 (fun _=>rfl) rfl (rhead_spec hrow (by omega) (fun r hr => by have := hsh r hr; omega)) (by repeat (first | exact Pull.nil _ | (apply Pull.cons; (focus (repeat (first | exact One.here _ _ | apply One.there))))))) (fun _=>rfl) rfl rfl ?_
  rintro _ _ ⟨rfl, rfl⟩
  rw [← hh]
  refine op_v (p_assign (fun _=>rfl)) ?_
  refine ops_nil ?_
  refine nx_next ?_
  refine at_seq ?_
  refine at_seq ?_
  refine at_region ?_
  refine op_v (p_assign (fun _=>rfl)) ?_
  refine ops_nil ?_
  refine nx_slots (env' := [(0, _), (1, _), (5, _), (6, _), (7, _)]) [0, 1, 5, 6, 7] rfl (fun _=>rfl) ?_
  refine nx_next ?_
  refine at_block ?_
  refine at_slots (env' := [(5, _), (6, _), (7, _), (0, _), (1, _)]) [5, 6, 7, 0, 1] rfl (fun _=>rfl) ?_
  refine at_loopB (e0 := [(5, _), (6, _), (7, _)]) (H0 := _) (n := _) (fun m e H => ∃ (i : Nat), m = ls.length - i ∧ (i ≤ ls.length) ∧ e = [(5, .string (str (outL h (ls.take i)))), (6, .string (str (headL h (ls.take i)))), (7, .int .i64 (i : Int))] ∧ H = []) (by exact ⟨0, rfl, Nat.zero_le _, rfl, rfl⟩) (by repeat (first | exact Pull.nil _ | (apply Pull.cons; (focus (repeat (first | exact One.here _ _ | apply One.there)))))) ?_
  rintro _ _ _ ⟨i, rfl, hi, rfl, rfl⟩
  refine at_seq ?_
  refine at_seq ?_
  refine at_region ?_
  refine op_v (p_move (fun _=>rfl)) ?_
  refine op_v (p_move (fun _=>rfl)) ?_
  refine op_v (p_len_slice Tryz.underlying22 (fun _=>rfl)) ?_
  first | refine op_v (p_lss_nat (fun _=>rfl) (fun _=>rfl)) ?_ | refine op_v (p_lss (fun _=>rfl) (fun _=>rfl)) ?_
  refine ops_nil ?_
  refine nx_next ?_
  first | refine at_if (fun _=>rfl) (fun hlt => ?_) (fun hlt => ?_) | refine at_if_bool (fun _=>rfl) (fun hlt => ?_) (fun hlt => ?_)
  ·
   rw [List.length_map] at hlt
   refine at_skip ?_
   refine nx_next ?_
   refine at_seq ?_
   refine at_block ?_
   refine at_seq ?_
   refine at_seq ?_
   obtain ⟨x, hx⟩ : ∃ x, ls[i]? = some x := ⟨_, List.getElem?_eq_getElem hlt⟩
   have hxl := hshort x (List.mem_of_getElem? hx)
   obtain ⟨gk, ck, curk, zk, hvk, rfl, hink⟩ := row_in hl (by rw [List.length_map]; omega)
   injection hvk with e1 e2 e3
   subst e1 e3
   have hcell := cellAt hink hx
   have htk : ls.take (i + 1) = ls.take i ++ [x] := by rw [List.take_add_one, hx]; rfl
   have hol := outL_len (ls.take i) h (fun r hr => hshort r (List.mem_of_mem_take hr))
   have htl : (ls.take i).length ≤ i := List.length_take_le ..
   have hrl := recS_len (headL h (ls.take i)) x hxl
   have hel := encS_len x hxl
   have hxs := str_size x
   refine at_region ?_
   refine op_v (p_move (fun _=>rfl)) ?_
   refine op_v (p_move (fun _=>rfl)) ?_
   first | (refine op_v (p_indexAddr_nat0 Tryz.underlying22 Tryz.sizeOf9 (fun _=>rfl) (fun _=>rfl) ?_) ?_; (focus (first | omega | (rw [List.length_map]; omega)))) | (refine op_v (p_indexAddr_nat1 Tryz.underlying22 Tryz.sizeOf9 (fun _=>rfl) (fun _=>rfl) ?_) ?_; (focus (first | omega | (rw [List.length_map]; omega))))
   refine op_r (by repeat (first | exact Has.here _ | apply Has.there)) (p_load Tryz.isAgg9 (fun _=>rfl) (by first | exact hcell | (rw [Nat.mul_one]; exact hcell) | simpa using hcell)) rfl rfl ?_
   refine op_v (p_len_str Tryz.underlying9 (fun _=>rfl)) ?_
   first | refine op_v (p_gtr_nat (n := 65536) (fun _=>rfl) (fun _=>rfl)) ?_ | refine op_v (p_gtr (fun _=>rfl) (fun _=>rfl)) ?_
   refine ops_nil ?_
   refine nx_next ?_
   first | refine at_if (fun _=>rfl) (fun hc2 => ?_) (fun hc2 => ?_) | refine at_if_bool (fun _=>rfl) (fun hc2 => ?_) (fun hc2 => ?_)
   ·
    exfalso; omega
   ·
    refine at_skip ?_
    refine nx_next ?_
    refine at_seq ?_
    refine at_region ?_
    refine op_v (p_move (fun _=>rfl)) ?_
    refine op_v (p_move (fun _=>rfl)) ?_
    refine op_v (p_move (fun _=>rfl)) ?_
    first | (refine op_v (p_indexAddr_nat0 Tryz.underlying22 Tryz.sizeOf9 (fun _=>rfl) (fun _=>rfl) ?_) ?_; (focus (first | omega | (rw [List.length_map]; omega)))) | (refine op_v (p_indexAddr_nat1 Tryz.underlying22 Tryz.sizeOf9 (fun _=>rfl) (fun _=>rfl) ?_) ?_; (focus (first | omega | (rw [List.length_map]; omega))))
    refine op_r (by repeat (first | exact Has.here _ | apply Has.there)) (p_load Tryz.isAgg9 (fun _=>rfl) (by first | exact hcell | (rw [Nat.mul_one]; exact hcell) | simpa using hcell)) rfl rfl ?_
    refine op_e (w_callR (vs := [_, _]) (fun _=>rfl) Tryz.call43 (fun _=>rfl) rfl (rstored_spec (headL h (ls.take i)) x (headL_len _ _ h32) hxl) (by repeat (first | exact Pull.nil _ | (apply Pull.cons; (focus (repeat (first | exact One.here _ _ | apply One.there))))))) (fun _=>rfl) rfl rfl ?_
    rintro _ _ ⟨rfl, rfl⟩
    refine op_v (p_move (fun _=>rfl)) ?_
    refine op_v (p_extract (fun _=>rfl) rfl) ?_
    refine op_v (p_extract (fun _=>rfl) rfl) ?_
    refine op_v (p_assign (fun _=>rfl)) ?_
    refine op_v (p_assign (fun _=>rfl)) ?_
    refine ops_nil ?_
    refine nx_slots (env' := [(0, _), (1, _), (5, _), (7, _), (8, _), (9, _)]) [0, 1, 5, 7, 8, 9] rfl (fun _=>rfl) ?_
    refine nx_next ?_
    refine at_seq ?_
    refine at_region ?_
    refine op_v (p_move (fun _=>rfl)) ?_
    refine op_v (p_move (fun _=>rfl)) ?_
    (refine op_v (p_add_str (fun _=>rfl) (fun _=>rfl) ?_) ?_; (focus (rw [str_size, str_size]; omega)))
    refine op_v (p_assign (fun _=>rfl)) ?_
    refine ops_nil ?_
    refine nx_next ?_
    refine at_region ?_
    refine op_v (p_move (fun _=>rfl)) ?_
    refine op_v (p_assign (fun _=>rfl)) ?_
    refine ops_nil ?_
    refine nx_block_normal ?_
    refine nx_next ?_
    refine at_region ?_
    refine op_v (p_move (fun _=>rfl)) ?_
    first | (refine op_v (p_add_nat (n := 1) (fun _=>rfl) (fun _=>rfl) ?_) ?_; (focus (omega))) | (refine op_v (p_add (fun _=>rfl) (fun _=>rfl) (IntWalk.i64_in _ ?_)) ?_; (focus (omega)))
    refine op_v (p_assign (fun _=>rfl)) ?_
    refine ops_nil ?_
    refine nx_slots (env' := [(5, _), (6, _), (7, _), (0, _), (1, _)]) [5, 6, 7, 0, 1] rfl (fun _=>rfl) ?_
    refine nx_againB (e' := [(5, _), (6, _), (7, _)]) (m := _) (H' := _) (by exact ⟨i + 1, rfl, by omega, by rw [htk, outL_snoc, headL_snoc, ← str_app], rfl⟩)
  ·
   rw [List.length_map] at hlt
   rw [List.take_of_length_le (show ls.length ≤ i by omega)]
   have hol := outL_len ls h hshort
   obtain ⟨out, ho⟩ : ∃ out, out = outL h ls := ⟨_, rfl⟩
   have htwo := outL_two h ls hshort
   rw [← ho] at hq hol htwo
   rw [← ho]
   refine at_exit ?_
   refine nx_thru (by intro h; cases h) ?_
   refine nx_thru (by intro h; cases h) ?_
   refine nx_block_exit ?_
   refine nx_next ?_
   refine at_seq ?_
   refine at_seq ?_
   refine at_region ?_
   refine op_v (p_move (fun _=>rfl)) ?_
   refine op_w (p_len_strL Tryz.underlying9 (fun _=>rfl)) rfl rfl ?_
   refine op_v (p_move (fun _=>rfl)) ?_
   refine op_e (w_callR (vs := [_]) (fun _=>rfl) Tryz.call19 (fun _=>rfl) rfl (rroom_st hR kp sz _ _ (by omega)) (by repeat (first | exact Pull.nil _ | (apply Pull.cons; (focus (repeat (first | exact One.here _ _ | apply One.there))))))) (fun _=>rfl) rfl rfl ?_
   rintro _ _ ⟨rfl, rfl⟩
   first | refine op_v (p_gtr_nat (fun _=>rfl) (fun _=>rfl)) ?_ | refine op_v (p_gtr (fun _=>rfl) (fun _=>rfl)) ?_
   refine ops_nil ?_
   refine nx_next ?_
   first | refine at_if (fun _=>rfl) (fun hroom => ?_) (fun hroom => ?_) | refine at_if_bool (fun _=>rfl) (fun hroom => ?_) (fun hroom => ?_)
   ·
    refine at_seq ?_
    refine at_region ?_
    refine op_v (p_assign (fun _=>rfl)) ?_
    refine ops_nil ?_
    refine nx_next ?_
    refine at_ret ?_
    refine nx_thru (by intro h; cases h) ?_
    refine nx_end1 (H' := _) rfl Tryz.results10 (fun _=>rfl) (by
          rw [if_pos (by omega)] at hq
          subst hq
          exact ⟨_, sr, sd, rfl, hrow, hR, rfl⟩)
   ·
    refine at_skip ?_
    refine nx_next ?_
    refine at_seq ?_
    refine at_seq ?_
    refine at_region ?_
    refine op_v (p_move (fun _=>rfl)) ?_
    refine op_v (p_eql_str (fun _=>rfl) (fun _=>rfl)) ?_
    refine ops_nil ?_
    refine nx_next ?_
    first | refine at_if (fun _=>rfl) (fun hemp => ?_) (fun hemp => ?_) | refine at_if_bool (fun _=>rfl) (fun hemp => ?_) (fun hemp => ?_)
    ·
     refine at_seq ?_
     refine at_region ?_
     refine op_v (p_assign (fun _=>rfl)) ?_
     refine ops_nil ?_
     refine nx_next ?_
     refine at_ret ?_
     refine nx_thru (by intro h; cases h) ?_
     refine nx_end1 (H' := _) rfl Tryz.results10 (fun _=>rfl) (by
           rw [if_neg (by omega), if_pos (by have h4 := congrArg (fun t : ByteArray => t.data.toList) hemp; simpa [str] using h4)] at hq
           subst hq
           exact ⟨_, sr, sd, rfl, hrow, hR, rfl⟩)
    ·
     refine at_skip ?_
     refine nx_next ?_
     refine at_seq ?_
     have hne : out ≠ [] := fun h5 => hemp (by rw [h5]; rfl)
     have h2o := htwo hne
     rw [if_neg (by omega), if_neg hne] at hq
     obtain ⟨qa, hqa⟩ : ∃ qa, qa = d.app sz out := ⟨_, rfl⟩
     rw [← hqa] at hq
     unfold DiskS.app at hqa
     simp only at hqa
     obtain ⟨p1, hp1⟩ : ∃ p, p = d.write (sz + 1) out.tail := ⟨_, rfl⟩
     have hl1 := write_len d (sz + 1) out.tail (by rw [List.length_tail]; omega)
     have hd1 := write_pend d (sz + 1) out.tail
     rw [← hp1] at hqa hl1 hd1
     obtain ⟨p2, hp2⟩ : ∃ p, p = p1.2.sync := ⟨_, rfl⟩
     have hl2 := sync_len p1.2
     have hd2 := sync_pend p1.2
     rw [← hp2] at hqa hl2 hd2
     obtain ⟨p3, hp3⟩ : ∃ p, p = p2.2.write sz (out.take 1) := ⟨_, rfl⟩
     have hl3 := write_len p2.2 sz (out.take 1) (by rw [List.length_take]; omega)
     have hd3 := write_pend p2.2 sz (out.take 1)
     rw [← hp3] at hqa hl3 hd3
     obtain ⟨p4, hp4⟩ : ∃ p, p = p3.2.sync := ⟨_, rfl⟩
     rw [← hp4] at hqa
     refine at_draw (n := 13) (0 :: 1 :: 3 :: 7 :: 0 :: 16 :: 48 :: 112 :: 240 :: 0 :: 512 :: 2047 :: 4095 :: []) 2048 (by kernel_rfl) (by kernel_rfl) rfl ?_
     refine lin_v (D' := 1) 0 (p_move (fun _=>rfl)) ?_
     refine lin_v (D' := 3) 1 (p_nilChk (fun _=>rfl) rfl) ?_
     refine lin_v (D' := 7) 2 (p_fieldAddr0 (off := 0) Tryz.underlying43 rfl rfl Tryz.sizeOf29 (fun _=>rfl)) ?_
     refine lin_r (D' := 15) 3 rfl rfl rfl (by repeat (first | exact Has.here _ | apply Has.there)) (p_load Tryz.isAgg29 (fun _=>rfl) (by rfl)) ?_
     refine lin_v (D' := 31) 4 (p_move (fun _=>rfl)) ?_
     refine lin_v (D' := 63) 5 (p_nilChk (fun _=>rfl) rfl) ?_
     refine lin_v (D' := 127) 6 (p_fieldAddr0 (off := 2) Tryz.underlying43 rfl rfl Tryz.sizeOf3 (fun _=>rfl)) ?_
     refine lin_r (D' := 255) 7 rfl rfl rfl (by repeat (first | exact Has.here _ | apply Has.there)) (p_load Tryz.isAgg3 (fun _=>rfl) (by rfl)) ?_
     first | (refine lin_v (D' := 511) 8 (p_add_nat (n := 1) (fun _=>rfl) (fun _=>rfl) ?_) ?_; (focus (omega))) | (refine lin_v (D' := 511) 8 (p_add (fun _=>rfl) (fun _=>rfl) (IntWalk.i64_in _ ?_)) ?_; (focus (omega)))
     refine lin_v (D' := 1023) 9 (p_move (fun _=>rfl)) ?_
     refine lin_w (D' := 2047) 10 rfl rfl rfl (p_slice_tail Tryz.underlying9 (fun _=>rfl) (fun _=>rfl) (by omega)) ?_
     refine lin_eff (l := [11]) (by kernel_rfl) (by kernel_rfl) ?_
     refine each_cons (m := 2047) (D' := 4095) (is := [7, 3]) (bs := [false, false]) (T' := []) rfl (fun _=>rfl) rfl rfl rfl (by kernel_rfl) rfl (w_call (vs := [_, _, _]) (fun _=>rfl) Tryz.call14 (fun _=>rfl) rfl (rd_write d rp sd hR (sz + 1) out.tail (by rw [List.length_tail]; omega) (by omega)) (by repeat (first | exact Pull.nil _ | (apply Pull.cons; (focus (repeat (first | exact One.here _ _ | apply One.there))))))) ?hk_5 no_pan ?hl_5
     case hk_5 =>
      rintro _ _ ⟨_, ⟨s1, rfl, rfl, hR1⟩, rfl⟩
      refine ⟨keep_nil, ?_⟩
      rw [← hp1] at hR1 ⊢
      refine lin_v (D' := 8191) 12 (p_assign (fun _=>rfl)) ?_
      refine lin_nil ?_
      refine nx_slots (env' := [(0, _), (1, _), (5, _), (10, _)]) [0, 1, 5, 10] rfl (fun _=>rfl) ?_
      refine nx_next ?_
      refine at_seq ?_
      refine at_seq ?_
      refine at_region ?_
      refine op_v (p_move (fun _=>rfl)) ?_
      first | refine op_v (p_eql_nat (n := 0) (fun _=>rfl) (fun _=>rfl)) ?_ | refine op_v (p_eql (fun _=>rfl) (fun _=>rfl)) ?_
      refine ops_nil ?_
      refine nx_next ?_
      first | refine at_if (fun _=>rfl) (fun hq1 => ?_) (fun hq1 => ?_) | refine at_if_bool (fun _=>rfl) (fun hq1 => ?_) (fun hq1 => ?_)
      ·
       rw [if_neg (fun h => h hq1)] at hqa
       refine at_region ?_
       refine op_v (p_move (fun _=>rfl)) ?_
       refine op_v (p_nilChk (fun _=>rfl) rfl) ?_
       refine op_v (p_fieldAddr0 (off := 0) Tryz.underlying43 rfl rfl Tryz.sizeOf29 (fun _=>rfl)) ?_
       refine op_r (by repeat (first | exact Has.here _ | apply Has.there)) (p_load Tryz.isAgg29 (fun _=>rfl) (by rfl)) rfl rfl ?_
       refine ops_eff (fun _=>rfl) (fits_of rfl) rfl (w_call (vs := [_]) (fun _=>rfl) Tryz.call44 (fun _=>rfl) rfl (rd_sync p1.2 rp s1 hR1 (by omega)) (by repeat (first | exact Pull.nil _ | (apply Pull.cons; (focus (repeat (first | exact One.here _ _ | apply One.there))))))) ?_ no_pan
       rintro _ _ ⟨_, ⟨s2, rfl, rfl, hR2⟩, rfl⟩
       rw [← hp2] at hR2 ⊢
       refine op_v (p_assign (fun _=>rfl)) ?_
       refine ops_nil ?_
       refine nx_next ?_
       refine at_seq ?_
       refine at_seq ?_
       refine at_region ?_
       refine op_v (p_move (fun _=>rfl)) ?_
       first | refine op_v (p_eql_nat (n := 0) (fun _=>rfl) (fun _=>rfl)) ?_ | refine op_v (p_eql (fun _=>rfl) (fun _=>rfl)) ?_
       refine ops_nil ?_
       refine nx_next ?_
       first | refine at_if (fun _=>rfl) (fun hq2 => ?_) (fun hq2 => ?_) | refine at_if_bool (fun _=>rfl) (fun hq2 => ?_) (fun hq2 => ?_)
       ·
        rw [if_neg (fun h => h hq2)] at hqa
        refine at_draw (n := 12) (0 :: 1 :: 3 :: 7 :: 0 :: 16 :: 48 :: 112 :: 0 :: 256 :: 1023 :: 2047 :: []) 1024 (by kernel_rfl) (by kernel_rfl) rfl ?_
        refine lin_v (D' := 1) 0 (p_move (fun _=>rfl)) ?_
        refine lin_v (D' := 3) 1 (p_nilChk (fun _=>rfl) rfl) ?_
        refine lin_v (D' := 7) 2 (p_fieldAddr0 (off := 0) Tryz.underlying43 rfl rfl Tryz.sizeOf29 (fun _=>rfl)) ?_
        refine lin_r (D' := 15) 3 rfl rfl rfl (by repeat (first | exact Has.here _ | apply Has.there)) (p_load Tryz.isAgg29 (fun _=>rfl) (by rfl)) ?_
        refine lin_v (D' := 31) 4 (p_move (fun _=>rfl)) ?_
        refine lin_v (D' := 63) 5 (p_nilChk (fun _=>rfl) rfl) ?_
        refine lin_v (D' := 127) 6 (p_fieldAddr0 (off := 2) Tryz.underlying43 rfl rfl Tryz.sizeOf3 (fun _=>rfl)) ?_
        refine lin_r (D' := 255) 7 rfl rfl rfl (by repeat (first | exact Has.here _ | apply Has.there)) (p_load Tryz.isAgg3 (fun _=>rfl) (by rfl)) ?_
        refine lin_v (D' := 511) 8 (p_move (fun _=>rfl)) ?_
        refine lin_w (D' := 1023) 9 rfl rfl rfl (p_slice_head Tryz.underlying9 (fun _=>rfl) (fun _=>rfl) (by omega)) ?_
        refine lin_eff (l := [10]) (by kernel_rfl) (by kernel_rfl) ?_
        refine each_cons (m := 1023) (D' := 2047) (is := [7, 3]) (bs := [false, false]) (T' := []) rfl (fun _=>rfl) rfl rfl rfl (by kernel_rfl) rfl (w_call (vs := [_, _, _]) (fun _=>rfl) Tryz.call14 (fun _=>rfl) rfl (rd_write p2.2 rp s2 hR2 sz (out.take 1) (by rw [List.length_take]; omega) (by omega)) (by repeat (first | exact Pull.nil _ | (apply Pull.cons; (focus (repeat (first | exact One.here _ _ | apply One.there))))))) ?hk_6 no_pan ?hl_6
        case hk_6 =>
         rintro _ _ ⟨_, ⟨s3, rfl, rfl, hR3⟩, rfl⟩
         refine ⟨keep_nil, ?_⟩
         rw [← hp3] at hR3 ⊢
         refine lin_v (D' := 4095) 11 (p_assign (fun _=>rfl)) ?_
         refine lin_nil ?_
         refine nx_slots (env' := [(0, _), (1, _), (5, _), (10, _)]) [0, 1, 5, 10] rfl (fun _=>rfl) ?_
         refine nx_next ?_
         refine at_seq ?_
         refine at_seq ?_
         refine at_region ?_
         refine op_v (p_move (fun _=>rfl)) ?_
         first | refine op_v (p_eql_nat (n := 0) (fun _=>rfl) (fun _=>rfl)) ?_ | refine op_v (p_eql (fun _=>rfl) (fun _=>rfl)) ?_
         refine ops_nil ?_
         refine nx_next ?_
         first | refine at_if (fun _=>rfl) (fun hq3 => ?_) (fun hq3 => ?_) | refine at_if_bool (fun _=>rfl) (fun hq3 => ?_) (fun hq3 => ?_)
         ·
          rw [if_neg (fun h => h hq3)] at hqa
          subst hqa
          refine at_region ?_
          refine op_v (p_move (fun _=>rfl)) ?_
          refine op_v (p_nilChk (fun _=>rfl) rfl) ?_
          refine op_v (p_fieldAddr0 (off := 0) Tryz.underlying43 rfl rfl Tryz.sizeOf29 (fun _=>rfl)) ?_
          refine op_r (by repeat (first | exact Has.here _ | apply Has.there)) (p_load Tryz.isAgg29 (fun _=>rfl) (by rfl)) rfl rfl ?_
          refine ops_eff (fun _=>rfl) (fits_of rfl) rfl (w_call (vs := [_]) (fun _=>rfl) Tryz.call44 (fun _=>rfl) rfl (rd_sync p3.2 rp s3 hR3 (by omega)) (by repeat (first | exact Pull.nil _ | (apply Pull.cons; (focus (repeat (first | exact One.here _ _ | apply One.there))))))) ?_ no_pan
          rintro _ _ ⟨_, ⟨s4, rfl, rfl, hR4⟩, rfl⟩
          rw [← hp4] at hR4 ⊢
          refine op_v (p_assign (fun _=>rfl)) ?_
          refine ops_nil ?_
          refine nx_next ?_
          refine at_seq ?_
          refine at_seq ?_
          refine at_region ?_
          refine op_v (p_move (fun _=>rfl)) ?_
          first | refine op_v (p_neq_nat (n := 0) (fun _=>rfl) (fun _=>rfl)) ?_ | refine op_v (p_neq (fun _=>rfl) (fun _=>rfl)) ?_
          refine ops_nil ?_
          refine nx_next ?_
          first | refine at_if (fun _=>rfl) (fun hx4 => ?_) (fun hx4 => ?_) | refine at_if_bool (fun _=>rfl) (fun hx4 => ?_) (fun hx4 => ?_)
          ·
           refine at_seq ?_
           rw [if_pos hx4] at hq
           subst hq
           refine at_region ?_
           refine op_v (p_move (fun _=>rfl)) ?_
           refine op_v (p_nilChk (fun _=>rfl) rfl) ?_
           refine op_v (p_fieldAddr0 (off := 3) Tryz.underlying43 rfl rfl Tryz.sizeOf4 (fun _=>rfl)) ?_
           refine op_e (w_store Tryz.sizeOf4 (fun _=>rfl) (fun _=>rfl) rfl (by repeat (first | exact Upd.here _ | apply Upd.there)) (by rfl) (by first | decide | exact Nat.le_refl _ | (simp; done) | (simp; omega)) (by exact free_zero _)) (fun _=>rfl) rfl rfl ?_
           rintro _ _ ⟨rfl, rfl⟩
           refine ops_nil ?_
           refine nx_slots (env' := [(10, _)]) [10] rfl (fun _=>rfl) ?_
           refine nx_next ?_
           refine at_seq ?_
           refine at_region ?_
           refine op_v (p_move (fun _=>rfl)) ?_
           refine op_v (p_assign (fun _=>rfl)) ?_
           refine ops_nil ?_
           refine nx_next ?_
           refine at_ret ?_
           refine nx_thru (by intro h; cases h) ?_
           refine nx_end1 (H' := _) rfl Tryz.results10 (fun _=>rfl) (by exact ⟨_, sr, _, rfl, hrow, by first | exact hR4 | exact hR3 | exact hR2 | exact hR1, rfl⟩)
          ·
           refine at_skip ?_
           refine nx_next ?_
           refine at_seq ?_
           refine at_region ?_
           refine op_v (p_assign (fun _=>rfl)) ?_
           refine ops_nil ?_
           refine nx_next ?_
           refine at_seq ?_
           refine at_nil ?_
           rw [if_neg hx4] at hq
           refine at_region ?_
           refine op_v (p_move (fun _=>rfl)) ?_
           refine op_v (p_move (fun _=>rfl)) ?_
           refine op_v (p_nilChk (fun _=>rfl) rfl) ?_
           refine op_v (p_fieldAddr0 (off := 1) Tryz.underlying43 rfl rfl Tryz.sizeOf22 (fun _=>rfl)) ?_
           refine op_r (by repeat (first | exact Has.here _ | apply Has.there)) (p_load Tryz.isAgg22 (fun _=>rfl) (by rfl)) rfl rfl ?_
           refine op_e (w_append_row (by_ := 16) Tryz.underlying22 (rfl : Tryz.prog.info? 9 = some Tryz.t9) rfl rfl rfl rfl (fun _=>rfl) (row_nil _) (fun _=>rfl) (hrow) (by repeat (first | exact One.here _ _ | apply One.there)) (by repeat (first | exact One.here _ _ | apply One.there)) (by simp [Value.oneCell', strV]) (by (simp only [List.length_map, List.length_nil]; omega)) (by (simp only [List.length_map, List.length_nil]; omega))) (fun _=>rfl) rfl rfl ?_
           rintro _ _ ⟨sa, hra, rfl⟩
           rw [List.nil_append] at hra
           obtain ⟨ga, ca, rfl⟩ := hra.form
           refine op_v (p_assign (fun _=>rfl)) ?_
           refine ops_nil ?_
           refine nx_slots (env' := [(0, _), (1, _), (5, _), (11, _)]) [0, 1, 5, 11] rfl (fun _=>rfl) ?_
           refine nx_next ?_
           refine at_seq ?_
           refine at_region ?_
           refine op_v (p_move (fun _=>rfl)) ?_
           refine op_v (p_move (fun _=>rfl)) ?_
           refine op_v (p_move (fun _=>rfl)) ?_
           refine op_e (w_append_row (by_ := 16) Tryz.underlying22 (rfl : Tryz.prog.info? 9 = some Tryz.t9) rfl rfl rfl rfl (fun _=>rfl) (hra) (fun _=>rfl) (hl) (by repeat (first | exact One.here _ _ | apply One.there)) (by repeat (first | exact One.here _ _ | apply One.there)) (by simp [Value.oneCell', strV]) (by (simp only [List.length_map]; omega)) (by (simp only [List.length_map]; omega))) (fun _=>rfl) rfl rfl ?_
           rintro _ _ ⟨sc, hrc, rfl⟩
           rw [← List.map_append] at hrc
           obtain ⟨gc, cc, rfl⟩ := hrc.form
           refine op_v (p_nilChk (fun _=>rfl) rfl) ?_
           refine op_v (p_fieldAddr0 (off := 1) Tryz.underlying43 rfl rfl Tryz.sizeOf22 (fun _=>rfl)) ?_
           refine op_e (w_store Tryz.sizeOf22 (fun _=>rfl) (fun _=>rfl) rfl (by repeat (first | exact Upd.here _ | apply Upd.there)) (by rfl) (by first | decide | exact Nat.le_refl _ | (simp; done) | (simp; omega)) (by exact free_zero _)) (fun _=>rfl) rfl rfl ?_
           rintro _ _ ⟨rfl, rfl⟩
           refine ops_nil ?_
           refine nx_next ?_
           refine at_seq ?_
           refine at_region ?_
           refine op_v (p_move (fun _=>rfl)) ?_
           refine op_v (p_move (fun _=>rfl)) ?_
           refine op_v (p_nilChk (fun _=>rfl) rfl) ?_
           refine op_v (p_fieldAddr0 (off := 2) Tryz.underlying43 rfl rfl Tryz.sizeOf3 (fun _=>rfl)) ?_
           refine op_r (by repeat (first | exact Has.here _ | apply Has.there)) (p_load Tryz.isAgg3 (fun _=>rfl) (by rfl)) rfl rfl ?_
           refine op_v (p_move (fun _=>rfl)) ?_
           refine op_w (p_len_strL Tryz.underlying9 (fun _=>rfl)) rfl rfl ?_
           first | (refine op_v (p_add_nat (fun _=>rfl) (fun _=>rfl) ?_) ?_; (focus (omega))) | (refine op_v (p_add (fun _=>rfl) (fun _=>rfl) (IntWalk.i64_in _ ?_)) ?_; (focus (omega)))
           refine op_v (p_nilChk (fun _=>rfl) rfl) ?_
           refine op_v (p_fieldAddr0 (off := 2) Tryz.underlying43 rfl rfl Tryz.sizeOf3 (fun _=>rfl)) ?_
           refine op_e (w_store Tryz.sizeOf3 (fun _=>rfl) (fun _=>rfl) rfl (by repeat (first | exact Upd.here _ | apply Upd.there)) (by rfl) (by first | decide | exact Nat.le_refl _ | (simp; done) | (simp; omega)) (by exact free_zero _)) (fun _=>rfl) rfl rfl ?_
           rintro _ _ ⟨rfl, rfl⟩
           refine ops_nil ?_
           refine nx_slots (env' := []) [] rfl (fun _=>rfl) ?_
           refine nx_next ?_
           refine at_seq ?_
           refine at_region ?_
           refine op_v (p_assign (fun _=>rfl)) ?_
           refine ops_nil ?_
           refine nx_next ?_
           refine at_ret ?_
           refine nx_end1 (H' := _) rfl Tryz.results10 (fun _=>rfl) (by
                 subst hq
                 exact ⟨_, sc, s4, rfl, hrc, hR4, rfl⟩)
         ·
          rw [if_pos hq3] at hqa
          subst hqa
          refine at_skip ?_
          refine nx_next ?_
          refine at_seq ?_
          refine at_seq ?_
          refine at_region ?_
          refine op_v (p_move (fun _=>rfl)) ?_
          first | refine op_v (p_neq_nat (n := 0) (fun _=>rfl) (fun _=>rfl)) ?_ | refine op_v (p_neq (fun _=>rfl) (fun _=>rfl)) ?_
          refine ops_nil ?_
          refine nx_next ?_
          first | refine at_if (fun _=>rfl) (fun hx4 => ?_) (fun hx4 => ?_) | refine at_if_bool (fun _=>rfl) (fun hx4 => ?_) (fun hx4 => ?_)
          ·
           refine at_seq ?_
           rw [if_pos hx4] at hq
           subst hq
           refine at_region ?_
           refine op_v (p_move (fun _=>rfl)) ?_
           refine op_v (p_nilChk (fun _=>rfl) rfl) ?_
           refine op_v (p_fieldAddr0 (off := 3) Tryz.underlying43 rfl rfl Tryz.sizeOf4 (fun _=>rfl)) ?_
           refine op_e (w_store Tryz.sizeOf4 (fun _=>rfl) (fun _=>rfl) rfl (by repeat (first | exact Upd.here _ | apply Upd.there)) (by rfl) (by first | decide | exact Nat.le_refl _ | (simp; done) | (simp; omega)) (by exact free_zero _)) (fun _=>rfl) rfl rfl ?_
           rintro _ _ ⟨rfl, rfl⟩
           refine ops_nil ?_
           refine nx_next ?_
           refine at_seq ?_
           refine at_region ?_
           refine op_v (p_move (fun _=>rfl)) ?_
           refine op_v (p_assign (fun _=>rfl)) ?_
           refine ops_nil ?_
           refine nx_next ?_
           refine at_ret ?_
           refine nx_thru (by intro h; cases h) ?_
           refine nx_end1 (H' := _) rfl Tryz.results10 (fun _=>rfl) (by exact ⟨_, sr, _, rfl, hrow, by first | exact hR4 | exact hR3 | exact hR2 | exact hR1, rfl⟩)
          ·
           exact absurd hq3 hx4
        case hl_6 =>
         exact each_nil
       ·
        rw [if_pos hq2] at hqa
        subst hqa
        refine at_skip ?_
        refine nx_next ?_
        refine at_seq ?_
        refine at_seq ?_
        refine at_region ?_
        refine op_v (p_move (fun _=>rfl)) ?_
        first | refine op_v (p_eql_nat (n := 0) (fun _=>rfl) (fun _=>rfl)) ?_ | refine op_v (p_eql (fun _=>rfl) (fun _=>rfl)) ?_
        refine ops_nil ?_
        refine nx_next ?_
        first | refine at_if (fun _=>rfl) (fun hx3 => ?_) (fun hx3 => ?_) | refine at_if_bool (fun _=>rfl) (fun hx3 => ?_) (fun hx3 => ?_)
        ·
         exact absurd hx3 hq2
        ·
         refine at_skip ?_
         refine nx_next ?_
         refine at_seq ?_
         refine at_seq ?_
         refine at_region ?_
         refine op_v (p_move (fun _=>rfl)) ?_
         first | refine op_v (p_neq_nat (n := 0) (fun _=>rfl) (fun _=>rfl)) ?_ | refine op_v (p_neq (fun _=>rfl) (fun _=>rfl)) ?_
         refine ops_nil ?_
         refine nx_slots (env' := [(0, _), (1, _), (5, _), (10, _), (93, _)]) [0, 1, 5, 10, 93] rfl (fun _=>rfl) ?_
         refine nx_next ?_
         first | refine at_if (fun _=>rfl) (fun hx4 => ?_) (fun hx4 => ?_) | refine at_if_bool (fun _=>rfl) (fun hx4 => ?_) (fun hx4 => ?_)
         ·
          refine at_seq ?_
          rw [if_pos hx4] at hq
          subst hq
          refine at_region ?_
          refine op_v (p_move (fun _=>rfl)) ?_
          refine op_v (p_nilChk (fun _=>rfl) rfl) ?_
          refine op_v (p_fieldAddr0 (off := 3) Tryz.underlying43 rfl rfl Tryz.sizeOf4 (fun _=>rfl)) ?_
          refine op_e (w_store Tryz.sizeOf4 (fun _=>rfl) (fun _=>rfl) rfl (by repeat (first | exact Upd.here _ | apply Upd.there)) (by rfl) (by first | decide | exact Nat.le_refl _ | (simp; done) | (simp; omega)) (by exact free_zero _)) (fun _=>rfl) rfl rfl ?_
          rintro _ _ ⟨rfl, rfl⟩
          refine ops_nil ?_
          refine nx_next ?_
          refine at_seq ?_
          refine at_region ?_
          refine op_v (p_move (fun _=>rfl)) ?_
          refine op_v (p_assign (fun _=>rfl)) ?_
          refine ops_nil ?_
          refine nx_next ?_
          refine at_ret ?_
          refine nx_thru (by intro h; cases h) ?_
          refine nx_end1 (H' := _) rfl Tryz.results10 (fun _=>rfl) (by exact ⟨_, sr, _, rfl, hrow, by first | exact hR4 | exact hR3 | exact hR2 | exact hR1, rfl⟩)
         ·
          exact absurd hq2 hx4
      ·
       rw [if_pos hq1] at hqa
       subst hqa
       refine at_skip ?_
       refine nx_next ?_
       refine at_seq ?_
       refine at_seq ?_
       refine at_region ?_
       refine op_v (p_move (fun _=>rfl)) ?_
       first | refine op_v (p_eql_nat (n := 0) (fun _=>rfl) (fun _=>rfl)) ?_ | refine op_v (p_eql (fun _=>rfl) (fun _=>rfl)) ?_
       refine ops_nil ?_
       refine nx_next ?_
       first | refine at_if (fun _=>rfl) (fun hx2 => ?_) (fun hx2 => ?_) | refine at_if_bool (fun _=>rfl) (fun hx2 => ?_) (fun hx2 => ?_)
       ·
        exact absurd hx2 hq1
       ·
        refine at_skip ?_
        refine nx_next ?_
        refine at_seq ?_
        refine at_seq ?_
        refine at_region ?_
        refine op_v (p_move (fun _=>rfl)) ?_
        first | refine op_v (p_eql_nat (n := 0) (fun _=>rfl) (fun _=>rfl)) ?_ | refine op_v (p_eql (fun _=>rfl) (fun _=>rfl)) ?_
        refine ops_nil ?_
        refine nx_next ?_
        first | refine at_if (fun _=>rfl) (fun hx3 => ?_) (fun hx3 => ?_) | refine at_if_bool (fun _=>rfl) (fun hx3 => ?_) (fun hx3 => ?_)
        ·
         exact absurd hx3 hq1
        ·
         refine at_skip ?_
         refine nx_next ?_
         refine at_seq ?_
         refine at_seq ?_
         refine at_region ?_
         refine op_v (p_move (fun _=>rfl)) ?_
         first | refine op_v (p_neq_nat (n := 0) (fun _=>rfl) (fun _=>rfl)) ?_ | refine op_v (p_neq (fun _=>rfl) (fun _=>rfl)) ?_
         refine ops_nil ?_
         refine nx_next ?_
         first | refine at_if (fun _=>rfl) (fun hx4 => ?_) (fun hx4 => ?_) | refine at_if_bool (fun _=>rfl) (fun hx4 => ?_) (fun hx4 => ?_)
         ·
          refine at_seq ?_
          rw [if_pos hx4] at hq
          subst hq
          refine at_region ?_
          refine op_v (p_move (fun _=>rfl)) ?_
          refine op_v (p_nilChk (fun _=>rfl) rfl) ?_
          refine op_v (p_fieldAddr0 (off := 3) Tryz.underlying43 rfl rfl Tryz.sizeOf4 (fun _=>rfl)) ?_
          refine op_e (w_store Tryz.sizeOf4 (fun _=>rfl) (fun _=>rfl) rfl (by repeat (first | exact Upd.here _ | apply Upd.there)) (by rfl) (by first | decide | exact Nat.le_refl _ | (simp; done) | (simp; omega)) (by exact free_zero _)) (fun _=>rfl) rfl rfl ?_
          rintro _ _ ⟨rfl, rfl⟩
          refine ops_nil ?_
          refine nx_next ?_
          refine at_seq ?_
          refine at_region ?_
          refine op_v (p_move (fun _=>rfl)) ?_
          refine op_v (p_assign (fun _=>rfl)) ?_
          refine ops_nil ?_
          refine nx_slots (env' := [(4, _)]) [4] rfl (fun _=>rfl) ?_
          refine nx_next ?_
          refine at_ret ?_
          refine nx_thru (by intro h; cases h) ?_
          refine nx_end1 (H' := _) rfl Tryz.results10 (fun _=>rfl) (by exact ⟨_, sr, _, rfl, hrow, by first | exact hR4 | exact hR3 | exact hR2 | exact hR1, rfl⟩)
         ·
          exact absurd hq1 hx4
     case hl_5 =>
      exact each_nil

theorem kr_append (j : JrS) (d : DiskS) (kp rp : Nat) (sk sl sd : List Chunk) (lv : Value) (ls : List (List UInt8)) (hK : KrR j kp rp sk) (hR : RdR d rp sd) (hl : Row 9 lv (ls.map strV) sl) (hbr : j.br = false) (hz : j.sz ≤ d.vi.length) (hk : d.pend.length ≤ 999990) (hls : ls.length ≤ 1000000) (hshort : ∀ r ∈ ls, r.length ≤ 65536) (hb : (j.append d ls).2.1.rs.length ≤ 4194304) :
    Does Tryz.prog 10 #[.pointer (some ⟨kp, 0, none⟩), lv] [sk, sl, sd] (fun r H' => ∃ sk' sd', r = .int .i64 (j.append d ls).1 ∧ KrR (j.append d ls).2.1 kp rp sk' ∧ RdR (j.append d ls).2.2 rp sd' ∧ H' = [sk', sl, sd']) := by
  obtain ⟨rs, h, sz, br⟩ := j
  simp only at hbr hz
  subst hbr
  obtain ⟨hh, hn, hsh, v, sr, hrow, rfl⟩ := hK
  simp only at hh hn hsh hrow
  obtain ⟨q, hq⟩ : ∃ q, q = JrS.append ⟨rs, h, sz, false⟩ d ls := ⟨_, rfl⟩
  have hkeep : q.2.1.h = headL zero32 q.2.1.rs ∧ ∀ r ∈ q.2.1.rs, r.length ≤ 65536 := by
    rw [hq]; unfold JrS.append
    split
    · exact ⟨hh, hsh⟩
    split
    · exact ⟨hh, hsh⟩
    split
    · exact ⟨hh, hsh⟩
    split
    · exact ⟨hh, hsh⟩
    · refine ⟨by show headL h ls = headL zero32 (rs ++ ls); rw [headL_append, hh], fun r hr => ?_⟩
      rcases List.mem_append.1 hr with h9 | h9
      · exact hsh r h9
      · exact hshort r h9
  refine does_mono (does_flat (by simp) (rappend_main kp rp sz v lv rs ls sr sl sd h d hrow hl hh hz hn hsh hshort hls hR hk q hq)) ?_
  rintro r _ ⟨v', sr', s', rfl, h1, h2, rfl⟩
  rw [← hq] at hb ⊢
  exact ⟨_, ⟨_, s', rfl, ⟨hkeep.1, hb, hkeep.2, v', sr', h1, rfl⟩, h2, rfl⟩, by simp⟩

theorem rappend_broken (kp rp : Nat) (v zv lv : Value) : DoesR Tryz.prog 10 #[.pointer (some ⟨kp, 0, none⟩), lv] [[(kp, .cells #[.pointer (some ⟨rp, 0, none⟩), v, zv, .bool true] 43 (0, 0))]] (.int .i64 230) := by
 refine spec_enter Tryz.func10 rfl Tryz.ntmps10 rfl ?_
 intro u R
 refine at_slots (env' := [(0, _), (1, _)]) [0, 1] rfl (fun _=>rfl) ?_
 refine at_seq ?_
 refine at_region ?_
 refine op_v (p_assign (fun _=>rfl)) ?_
 refine ops_nil ?_
 refine nx_next ?_
 refine at_seq ?_
 refine at_seq ?_
 refine at_region ?_
 refine op_v (p_move (fun _=>rfl)) ?_
 refine op_v (p_nilChk (fun _=>rfl) rfl) ?_
 refine op_v (p_fieldAddr0 (off := 3) Tryz.underlying43 rfl rfl Tryz.sizeOf4 (fun _=>rfl)) ?_
 refine op_r (by repeat (first | exact Has.here _ | apply Has.there)) (p_load Tryz.isAgg4 (fun _=>rfl) (by rfl)) rfl rfl ?_
 refine ops_nil ?_
 refine nx_next ?_
 refine at_if_bool (fun _=>rfl) (fun hc1 => ?_) (fun hc1 => ?_)
 ·
  refine at_seq ?_
  refine at_region ?_
  refine op_v (p_assign (fun _=>rfl)) ?_
  refine ops_nil ?_
  refine nx_next ?_
  refine at_ret ?_
  refine nx_thru (by intro h; cases h) ?_
  refine nx_end1 (H' := _) rfl Tryz.results10 (fun _=>rfl) (by exact ⟨rfl, rfl⟩)
 ·
  cases hc1

end Go.Proofs.YtdahnapibeepkaaGreatDoor
