/- The reference of layer 22: apply, Visible, Write, Sync, Read, New. The reference of layer 22 over plain states. -/
import Derived.Test.YtdahnapibeepkaaGreatDoorJm4
import Derived.Test.YtdahnapibeepkaaGreatDoorLw3
import Derived.Test.YtdahnapibeepkaaGreatDoorSn2
import Derived.Test.YtdahnapibeepkaaGreatDoorEx11
namespace Go.Proofs.YtdahnapibeepkaaGreatDoor
open Go Go.RowKit Gw
set_option linter.unusedVariables false
set_option maxRecDepth 100000
attribute [local irreducible] Gw.At Gw.Nx Gw.Ops
/-- What is visible: the writes that are pending, one over another. -/
def vis (du : List UInt8) (l : List (Nat × List UInt8)) : List UInt8 := l.foldl (fun b p => splice b p.1 p.2) du
theorem vis_snoc (du : List UInt8) (l : List (Nat × List UInt8)) (p : Nat × List UInt8) : vis du (l ++ [p]) = splice (vis du l) p.1 p.2 := by simp [vis]
theorem vis_len (du : List UInt8) (l : List (Nat × List UInt8)) (h : ∀ p ∈ l, p.1 + p.2.length ≤ du.length) : (vis du l).length = du.length := by
  induction l generalizing du with
  | nil => rfl
  | cons p l ih =>
    have h1 := splice_len du p.1 p.2 (h p (by simp))
    show (vis (splice du p.1 p.2) l).length = _
    rw [ih _ (fun q hq => by rw [h1]; exact h q (by simp [hq])), h1]
theorem splice_set (l s : List UInt8) (o i : Nat) (b : UInt8) (hs : s[i]? = some b) (h : o + s.length ≤ l.length) : splice l o (s.take (i + 1)) = (splice l o (s.take i)).set (o + i) b := by
  have hi := (List.getElem?_eq_some_iff.1 hs).1
  have ht : (s.take i).length = i := by rw [List.length_take]; omega
  have ht1 : (s.take (i + 1)).length = i + 1 := by rw [List.length_take]; omega
  have hd : l.drop (o + i) = l[o + i]'(by omega) :: l.drop (o + i + 1) := List.drop_eq_getElem_cons (by omega)
  have hto : (l.take o).length = o := by rw [List.length_take]; omega
  unfold splice
  rw [ht, ht1, List.take_add_one, hs, hd, ← Nat.add_assoc]
  rw [List.set_append_right _ _ (by rw [List.length_append, hto, ht]; omega)]
  rw [List.length_append, hto, ht, Nat.sub_self, List.set_cons_zero]
  simp
theorem splice_zero (l : List UInt8) (o : Nat) : splice l o [] = l := by unfold splice; simp
theorem pend_off {l : List (Nat × List UInt8)} {i : Nat} {p : Nat × List UInt8} (h : l[i]? = some p) : (pendC l)[i * 2]? = some (.int .i64 (p.1 : Int)) ∧ (pendC l)[i * 2 + 1]? = some (.string (str p.2)) := by
  induction l generalizing i with
  | nil => cases h
  | cons a l ih =>
    cases i with
    | zero =>
      simp only [List.getElem?_cons_zero, Option.some.injEq] at h
      subst h
      exact ⟨rfl, rfl⟩
    | succ i =>
      rw [List.getElem?_cons_succ] at h
      obtain ⟨h1, h2⟩ := ih h
      have e : pendC (a :: l) = .int .i64 (a.1 : Int) :: .string (str a.2) :: pendC l := rfl
      rw [e, show (i + 1) * 2 = i * 2 + 1 + 1 by omega]
      exact ⟨h1, h2⟩
theorem rowS_at {sz : Nat} {e : TypeId} {v : Value} {k : Nat} {xs : List Value} {s : List Chunk} (h : RowS sz e v k xs s) (hk : 0 < k) : ∃ g cap cur z, v = .slice (some ⟨g, 0, none⟩) k cap ∧ s = [(g, .cells cur e z)] ∧ k ≤ cap ∧ ∀ (j : Nat) (x : Value), xs[j]? = some x → cur[j]? = some x := by
  obtain ⟨hl, ⟨_, h2, _⟩ | ⟨g, cap, cur, z, rfl, rfl, hle, hcm, hcs, htk, hfr⟩⟩ := h
  · omega
  · refine ⟨g, cap, cur, z, rfl, rfl, hle, fun j x hx => ?_⟩
    have hj := (List.getElem?_eq_some_iff.1 hx).1
    rw [← Array.getElem?_toList]
    rw [← htk, List.getElem?_take] at hx
    split at hx
    · exact hx
    · cases hx
theorem cut_from (b o cap n m : Nat) (h : o < cap) (e : n = m) : Value.slice (cutAt (some ⟨b, 0, none⟩) o cap 1) n (cap - o) = .slice (some ⟨b, o, none⟩) m (cap - o) := by
  subst e
  unfold cutAt
  rw [if_neg (by omega), Option.map_some, add_addr, Nat.mul_one, Nat.zero_add]

theorem apply_spec {v : Value} {l s : List UInt8} {sv : List Chunk} (hr : Row 5 v (l.map u8v) sv) (o : Nat) (h : o + s.length ≤ l.length) (hl : l.length ≤ 4194304) :
    Does Tryz.prog 51 #[v, .int .i64 (o : Int), .string (str s)] [sv] (fun r H' => ∃ sv', r = .tuple #[] ∧ Row 5 v ((splice l o s).map u8v) sv' ∧ H' = [sv']) := by
 have hss := str_size s
 refine spec_enter Tryz.func51 rfl Tryz.ntmps51 rfl ?_
 intro u R
 refine at_slots (env' := [(0, _), (1, _), (2, _)]) [0, 1, 2] rfl (fun _=>rfl) ?_
 refine at_seq ?_
 refine at_region ?_
 refine op_v (p_assign (fun _=>rfl)) ?_
 refine ops_nil ?_
 refine nx_next ?_
 refine at_block ?_
 refine at_slots (env' := [(6, _), (0, _), (1, _), (2, _)]) [6, 0, 1, 2] rfl (fun _=>rfl) ?_
 refine at_loopB (e0 := [(6, _)]) (H0 := _) (n := _) (fun m e H => ∃ (i : Nat) (sv : List Chunk), m = s.length - i ∧ (i ≤ s.length ∧ Row 5 v ((splice l o (s.take i)).map u8v) sv) ∧ e = [(6, .int .i64 (i : Int))] ∧ H = [sv]) (by exact ⟨0, _, rfl, ⟨Nat.zero_le _, by rw [List.take_zero, splice_zero]; exact hr⟩, rfl, rfl⟩) (by repeat (first | exact Pull.nil _ | (apply Pull.cons; (focus (repeat (first | exact One.here _ _ | apply One.there)))))) ?_
 rintro _ _ _ ⟨i, sv, rfl, ⟨hi, hrv⟩, rfl, rfl⟩
 refine at_seq ?_
 refine at_seq ?_
 refine at_region ?_
 refine op_v (p_move (fun _=>rfl)) ?_
 refine op_v (p_move (fun _=>rfl)) ?_
 refine op_v (p_len_str Tryz.underlying9 (fun _=>rfl)) ?_
 first | refine op_v (p_lss_nat (fun _=>rfl) (fun _=>rfl)) ?_ | refine op_v (p_lss (fun _=>rfl) (fun _=>rfl)) ?_
 refine ops_nil ?_
 refine nx_next ?_
 first | refine at_if (fun _=>rfl) (fun hlt => ?_) (fun hlt => ?_) | refine at_if_bool (fun _=>rfl) (fun hlt => ?_) (fun hlt => ?_)
 ·
  refine at_skip ?_
  refine nx_next ?_
  refine at_seq ?_
  refine at_block ?_
  have hby := byte_get s i (by omega)
  have hsl : (splice l o (s.take i)).length = l.length := splice_len _ _ _ (by rw [List.length_take]; omega)
  obtain ⟨gb, capb, curb, zb, rfl, rfl, hkb, hfb, hset⟩ := row_set (k := o + i) hrv (by rw [List.length_map, hsl]; omega)
  refine at_region ?_
  refine op_v (p_move (fun _=>rfl)) ?_
  refine op_v (p_move (fun _=>rfl)) ?_
  refine op_v (p_move (fun _=>rfl)) ?_
  first | (refine op_v (p_add_nat (fun _=>rfl) (fun _=>rfl) ?_) ?_; (focus (omega))) | (refine op_v (p_add (fun _=>rfl) (fun _=>rfl) (IntWalk.i64_in _ ?_)) ?_; (focus (omega)))
  refine op_v (p_move (fun _=>rfl)) ?_
  refine op_v (p_move (fun _=>rfl)) ?_
  (refine op_v (p_index_str Tryz.underlying9 (fun _=>rfl) (fun _=>rfl) (byteAt_get _ _ ?_)) ?_; (focus (first | (rw [List.length_map, hsl]; omega) | omega)))
  first | (refine op_v (p_indexAddr_nat0 Tryz.underlying39 Tryz.sizeOf5 (fun _=>rfl) (fun _=>rfl) ?_) ?_; (focus (first | (rw [List.length_map, hsl]; omega) | omega))) | (refine op_v (p_indexAddr_nat1 Tryz.underlying39 Tryz.sizeOf5 (fun _=>rfl) (fun _=>rfl) ?_) ?_; (focus (first | (rw [List.length_map, hsl]; omega) | omega)))
  refine op_e (w_store Tryz.sizeOf5 (fun _=>rfl) (fun _=>rfl) rfl (by repeat (first | exact Upd.here _ | apply Upd.there)) (by rfl) (by first | (rw [List.length_map, hsl]; omega) | omega) (by exact hfb)) (fun _=>rfl) rfl rfl ?_
  rintro _ _ ⟨rfl, rfl⟩
  refine ops_nil ?_
  refine nx_slots (env' := [(0, _), (1, _), (2, _), (6, _)]) [0, 1, 2, 6] rfl (fun _=>rfl) ?_
  refine nx_block_normal ?_
  refine nx_next ?_
  refine at_region ?_
  refine op_v (p_move (fun _=>rfl)) ?_
  first | (refine op_v (p_add_nat (n := 1) (fun _=>rfl) (fun _=>rfl) ?_) ?_; (focus (omega))) | (refine op_v (p_add (fun _=>rfl) (fun _=>rfl) (IntWalk.i64_in _ ?_)) ?_; (focus (omega)))
  refine op_v (p_assign (fun _=>rfl)) ?_
  refine ops_nil ?_
  refine nx_slots (env' := [(6, _), (0, _), (1, _), (2, _)]) [6, 0, 1, 2] rfl (fun _=>rfl) ?_
  refine nx_againB (e' := [(6, _)]) (m := _) (H' := _) (by exact ⟨i + 1, _, rfl, ⟨by omega, by rw [splice_set l s o i _ hby h, List.map_set]; exact hset _⟩, rfl, rfl⟩)
 ·
  have ei : s.take i = s := List.take_of_length_le (by omega)
  rw [ei] at hrv
  refine at_exit ?_
  refine nx_thru (by intro h; cases h) ?_
  refine nx_thru (by intro h; cases h) ?_
  refine nx_block_exit ?_
  refine nx_end0 (H' := _) rfl Tryz.results51 (by exact ⟨_, rfl, hrv, rfl⟩)

theorem rvis_spec (off : Bool) {v pv : Value} {du : List UInt8} {l : List (Nat × List UInt8)} {sv sp : List Chunk} (rp left : Nat) (hr : Row 5 v (du.map u8v) sv) (hp : RowS 2 112 pv l.length (pendC l) sp) (hin : ∀ p ∈ l, p.1 + p.2.length ≤ du.length) (hd : du.length ≤ 4194304) (h0 : 1 ≤ du.length) (hl : l.length ≤ 1000000) :
    Does Tryz.prog 21 #[.pointer (some ⟨rp, 0, none⟩)] [[(rp, .cells #[v, pv, .bool off, .int .i64 (left : Int)] 77 (0, 0))], sv, sp] (fun r H' => ∃ s2, Row 5 r ((vis du l).map u8v) s2 ∧ H' = [[(rp, .cells #[v, pv, .bool off, .int .i64 (left : Int)] 77 (0, 0))], sv, sp, s2]) := by
 have hml : maxLen = 9223372036854775807 := rfl
 obtain ⟨b0, c0, hv0⟩ := hr.form
 rw [List.length_map] at hv0
 subst hv0
 obtain ⟨b1, c1, rfl⟩ := hp.form
 refine spec_enter Tryz.func21 rfl Tryz.ntmps21 rfl ?_
 intro u R
 refine at_slots (env' := [(0, _)]) [0] rfl (fun _=>rfl) ?_
 refine at_seq ?_
 refine at_region ?_
 refine op_v (p_assign (fun _=>rfl)) ?_
 refine ops_nil ?_
 refine nx_next ?_
 refine at_seq ?_
 refine at_region ?_
 refine op_e (w_buildSlice0 Tryz.underlying39 Tryz.sizeOf5) (fun _=>rfl) rfl rfl ?_
 rintro _ _ ⟨ge, rfl, rfl⟩
 refine op_v (p_move (fun _=>rfl)) ?_
 refine op_v (p_nilChk (fun _=>rfl) rfl) ?_
 refine op_v (p_fieldAddr0 (off := 0) Tryz.underlying77 rfl rfl Tryz.sizeOf39 (fun _=>rfl)) ?_
 refine op_r (by repeat (first | exact Has.here _ | apply Has.there)) (p_load Tryz.isAgg39 (fun _=>rfl) (by rfl)) rfl rfl ?_
 refine op_e (w_append_row (by_ := 1) Tryz.underlying39 (rfl : Tryz.prog.info? 5 = some Tryz.t5) rfl rfl rfl rfl (fun _=>rfl) (row_new _ ge [] 0 rfl (Nat.zero_le _)) (fun _=>rfl) (hr) (by repeat (first | exact One.here _ _ | apply One.there)) (by repeat (first | exact One.here _ _ | apply One.there)) (by simp [Value.oneCell', u8v]) (by (simp only [List.length_map, List.length_nil]; omega)) (by (simp only [List.length_map, List.length_nil]; omega))) (fun _=>rfl) rfl rfl ?_
 rintro _ _ ⟨sw, hrw, rfl⟩
 rw [List.nil_append] at hrw
 obtain ⟨gw, cw, rfl⟩ := hrw.form
 refine op_v (p_assign (fun _=>rfl)) ?_
 refine ops_nil ?_
 refine nx_next ?_
 refine at_seq ?_
 refine at_seq ?_
 refine at_region ?_
 refine op_v (p_assign (fun _=>rfl)) ?_
 refine ops_nil ?_
 refine nx_next ?_
 refine at_block ?_
 refine at_slots (env' := [(4, _), (0, _), (3, _)]) [4, 0, 3] rfl (fun _=>rfl) ?_
 refine at_loopB (e0 := [(4, _)]) (H0 := _) (n := _) (fun m e H => ∃ (i : Nat) (s2 : List Chunk), m = l.length - i ∧ (i ≤ l.length ∧ Row 5 (.slice gw (List.map u8v du).length cw) ((vis du (l.take i)).map u8v) s2) ∧ e = [(4, .int .i64 (i : Int))] ∧ H = [s2]) (by exact ⟨0, _, rfl, ⟨Nat.zero_le _, hrw⟩, rfl, rfl⟩) (by repeat (first | exact Pull.nil _ | (apply Pull.cons; (focus (repeat (first | exact One.here _ _ | apply One.there)))))) ?_
 rintro _ _ _ ⟨i, s2, rfl, ⟨hi, hrv⟩, rfl, rfl⟩
 refine at_seq ?_
 refine at_seq ?_
 refine at_region ?_
 refine op_v (p_move (fun _=>rfl)) ?_
 refine op_v (p_move (fun _=>rfl)) ?_
 refine op_v (p_nilChk (fun _=>rfl) rfl) ?_
 refine op_v (p_fieldAddr0 (off := 1) Tryz.underlying77 rfl rfl Tryz.sizeOf75 (fun _=>rfl)) ?_
 refine op_r (by repeat (first | exact Has.here _ | apply Has.there)) (p_load Tryz.isAgg75 (fun _=>rfl) (by rfl)) rfl rfl ?_
 refine op_v (p_len_slice Tryz.underlying75 (fun _=>rfl)) ?_
 first | refine op_v (p_lss_nat (fun _=>rfl) (fun _=>rfl)) ?_ | refine op_v (p_lss (fun _=>rfl) (fun _=>rfl)) ?_
 refine ops_nil ?_
 refine nx_next ?_
 first | refine at_if (fun _=>rfl) (fun hlt => ?_) (fun hlt => ?_) | refine at_if_bool (fun _=>rfl) (fun hlt => ?_) (fun hlt => ?_)
 ·
  refine at_skip ?_
  refine nx_next ?_
  refine at_seq ?_
  refine at_block ?_
  obtain ⟨x, hx⟩ : ∃ x, l[i]? = some x := ⟨_, List.getElem?_eq_getElem hlt⟩
  have hxi := hin x (List.mem_of_getElem? hx)
  have hvl := vis_len du (l.take i) (fun p hp => hin p (List.mem_of_mem_take hp))
  obtain ⟨hc1, hc2⟩ := pend_off hx
  obtain ⟨g1, cap1, cur1, z1, hv1, rfl, hle1, hget1⟩ := rowS_at hp (by omega)
  injection hv1 with e1 e2 e3
  subst e1 e3
  have hd1 := hget1 _ _ hc1
  have hd2 := hget1 _ _ hc2
  rw [show i * 2 = 0 + i * 2 by omega] at hd1
  rw [show i * 2 + 1 = 0 + i * 2 + 1 by omega] at hd2
  refine at_draw (n := 18) (0 :: 0 :: 2 :: 6 :: 14 :: 0 :: 62 :: 126 :: 254 :: 0 :: 512 :: 1536 :: 3584 :: 0 :: 15872 :: 32256 :: 65024 :: 131071 :: []) 131072 (by kernel_rfl) (by kernel_rfl) rfl ?_
  refine lin_v (D' := 1) 0 (p_move (fun _=>rfl)) ?_
  refine lin_v (D' := 3) 1 (p_move (fun _=>rfl)) ?_
  refine lin_v (D' := 7) 2 (p_nilChk (fun _=>rfl) rfl) ?_
  refine lin_v (D' := 15) 3 (p_fieldAddr0 (off := 1) Tryz.underlying77 rfl rfl Tryz.sizeOf75 (fun _=>rfl)) ?_
  refine lin_r (D' := 31) 4 rfl rfl rfl (by repeat (first | exact Has.here _ | apply Has.there)) (p_load Tryz.isAgg75 (fun _=>rfl) (by rfl)) ?_
  refine lin_v (D' := 63) 5 (p_move (fun _=>rfl)) ?_
  (refine lin_v (D' := 127) 6 (p_indexAddr_nat Tryz.underlying75 Tryz.sizeOf112 (fun _=>rfl) (fun _=>rfl) ?_) ?_; (focus (omega)))
  refine lin_v (D' := 255) 7 (p_fieldAddr1 (off := 0) Tryz.underlying112 rfl rfl Tryz.sizeOf3 (fun _=>rfl)) ?_
  refine lin_r (D' := 511) 8 rfl rfl rfl (by repeat (first | exact Has.here _ | apply Has.there)) (p_load Tryz.isAgg3 (fun _=>rfl) (by exact hd1)) ?_
  refine lin_v (D' := 1023) 9 (p_move (fun _=>rfl)) ?_
  refine lin_v (D' := 2047) 10 (p_nilChk (fun _=>rfl) rfl) ?_
  refine lin_v (D' := 4095) 11 (p_fieldAddr0 (off := 1) Tryz.underlying77 rfl rfl Tryz.sizeOf75 (fun _=>rfl)) ?_
  refine lin_r (D' := 8191) 12 rfl rfl rfl (by repeat (first | exact Has.here _ | apply Has.there)) (p_load Tryz.isAgg75 (fun _=>rfl) (by rfl)) ?_
  refine lin_v (D' := 16383) 13 (p_move (fun _=>rfl)) ?_
  (refine lin_v (D' := 32767) 14 (p_indexAddr_nat Tryz.underlying75 Tryz.sizeOf112 (fun _=>rfl) (fun _=>rfl) ?_) ?_; (focus (omega)))
  refine lin_v (D' := 65535) 15 (p_fieldAddr1 (off := 1) Tryz.underlying112 rfl rfl Tryz.sizeOf9 (fun _=>rfl)) ?_
  refine lin_r (D' := 131071) 16 rfl rfl rfl (by repeat (first | exact Has.here _ | apply Has.there)) (p_load Tryz.isAgg9 (fun _=>rfl) (by exact hd2)) ?_
  refine lin_eff (l := [17]) (by kernel_rfl) (by kernel_rfl) ?_
  refine each_cons (m := 131071) (D' := 262143) (is := [16, 12, 8, 4]) (bs := [false, false, false, false]) (T' := []) rfl (fun _=>rfl) rfl rfl rfl (by kernel_rfl) rfl (w_call (vs := [_, _, _]) (fun _=>rfl) Tryz.call51 (fun _=>rfl) rfl (apply_spec hrv x.1 (by rw [hvl]; exact hxi) (by rw [hvl]; exact hd)) (by repeat (first | exact Pull.nil _ | (apply Pull.cons; (focus (repeat (first | exact One.here _ _ | apply One.there))))))) ?hk_2 no_pan ?hl_2
  case hk_2 =>
   rintro _ _ ⟨_, ⟨sq, rfl, hrq, rfl⟩, rfl⟩
   refine ⟨keep_nil, ?_⟩
   refine lin_nil ?_
   refine nx_slots (env' := [(0, _), (3, _), (4, _)]) [0, 3, 4] rfl (fun _=>rfl) ?_
   refine nx_block_normal ?_
   refine nx_next ?_
   refine at_region ?_
   refine op_v (p_move (fun _=>rfl)) ?_
   first | (refine op_v (p_add_nat (n := 1) (fun _=>rfl) (fun _=>rfl) ?_) ?_; (focus (omega))) | (refine op_v (p_add (fun _=>rfl) (fun _=>rfl) (IntWalk.i64_in _ ?_)) ?_; (focus (omega)))
   refine op_v (p_assign (fun _=>rfl)) ?_
   refine ops_nil ?_
   refine nx_slots (env' := [(4, _), (0, _), (3, _)]) [4, 0, 3] rfl (fun _=>rfl) ?_
   refine nx_againB (e' := [(4, _)]) (m := _) (H' := _) (by exact ⟨i + 1, _, rfl, ⟨by omega, by rw [List.take_add_one, hx]; show Row _ _ ((vis du (l.take i ++ [x])).map u8v) _; rw [vis_snoc]; exact hrq⟩, rfl, rfl⟩)
  case hl_2 =>
   exact each_nil
 ·
  have ei : l.take i = l := List.take_of_length_le (by omega)
  rw [ei] at hrv
  refine at_exit ?_
  refine nx_thru (by intro h; cases h) ?_
  refine nx_thru (by intro h; cases h) ?_
  refine nx_block_exit ?_
  refine nx_next ?_
  refine at_seq ?_
  refine at_region ?_
  refine op_v (p_move (fun _=>rfl)) ?_
  refine op_v (p_assign (fun _=>rfl)) ?_
  refine ops_nil ?_
  refine nx_next ?_
  refine at_ret ?_
  refine nx_end1 (H' := _) rfl Tryz.results21 (fun _=>rfl) (by exact ⟨_, hrv, rfl⟩)

theorem rwrite0 {v pv : Value} {du : List UInt8} {l : List (Nat × List UInt8)} {sv sp : List Chunk} (rp : Nat) (hr : Row 5 v (du.map u8v) sv) (hp : RowS 2 112 pv l.length (pendC l) sp) (hin : ∀ p ∈ l, p.1 + p.2.length ≤ du.length) (hd : du.length ≤ 4194304) (h0 : 1 ≤ du.length) (hl : l.length ≤ 1000000) (o : Nat) (s : List UInt8) (h : o + s.length ≤ du.length) : Does Tryz.prog 14 #[.pointer (some ⟨rp, 0, none⟩), .int .i64 (o : Int), .string (str s)] [[(rp, .cells #[v, pv, .bool false, .int .i64 ((0 : Nat) : Int)] 77 (0, 0))], sv, sp] (fun r H' => ∃ pv' sp', r = .int .i64 0 ∧ RowS 2 112 pv' (l.length + 1) (pendC l ++ [.int .i64 (o : Int), .string (str s)]) sp' ∧ H' = [[(rp, .cells #[v, pv', .bool (usedOff false (0 : Nat)), .int .i64 ((usedLeft (0 : Nat) : Nat) : Int)] 77 (0, 0))], sv, sp']) := by
 have hml : maxLen = 9223372036854775807 := rfl
 obtain ⟨b0, c0, hv0⟩ := hr.form
 rw [List.length_map] at hv0
 subst hv0
 obtain ⟨b1, c1, rfl⟩ := hp.form
 have hss := str_size s
 refine spec_enter Tryz.func14 rfl Tryz.ntmps14 rfl ?_
 intro u R
 refine at_slots (env' := [(0, _), (1, _), (2, _)]) [0, 1, 2] rfl (fun _=>rfl) ?_
 refine at_seq ?_
 refine at_region ?_
 refine op_v (p_assign (fun _=>rfl)) ?_
 refine ops_nil ?_
 refine nx_next ?_
 refine at_seq ?_
 refine at_seq ?_
 refine at_region ?_
 refine op_v (p_move (fun _=>rfl)) ?_
 refine op_v (p_nilChk (fun _=>rfl) rfl) ?_
 refine op_v (p_fieldAddr0 (off := 2) Tryz.underlying77 rfl rfl Tryz.sizeOf4 (fun _=>rfl)) ?_
 refine op_r (by repeat (first | exact Has.here _ | apply Has.there)) (p_load Tryz.isAgg4 (fun _=>rfl) (by rfl)) rfl rfl ?_
 refine ops_nil ?_
 refine nx_next ?_
 refine at_if_bool (fun _=>rfl) (fun hc1 => ?_) (fun hc1 => ?_)
 ·
  cases hc1
 ·
  refine at_skip ?_
  refine nx_next ?_
  refine at_seq ?_
  refine at_seq ?_
  refine at_region ?_
  refine op_v (p_move (fun _=>rfl)) ?_
  first | refine op_v (p_lss_nat (n := 0) (fun _=>rfl) (fun _=>rfl)) ?_ | refine op_v (p_lss (fun _=>rfl) (fun _=>rfl)) ?_
  refine op_v (p_move (fun _=>rfl)) ?_
  first | refine ops_split (t := 13) (fun _=>rfl) rfl (fun hc2 => ?_) (fun hc2 => ?_) | refine ops_split_bool (t := 13) (fun _=>rfl) rfl (fun hc2 => ?_) (fun hc2 => ?_)
  ·
   exfalso; omega
  ·
   refine op_wg (fun _=>rfl) (p_move (fun _=>rfl)) rfl rfl ?_
   refine op_wg (fun _=>rfl) (p_move (fun _=>rfl)) rfl rfl ?_
   refine op_wg (fun _=>rfl) (p_nilChk (fun _=>rfl) rfl) rfl rfl ?_
   refine op_wg (fun _=>rfl) (p_fieldAddr0 (off := 0) Tryz.underlying77 rfl rfl Tryz.sizeOf39 (fun _=>rfl)) rfl rfl ?_
   refine op_rg (fun _=>rfl) (by repeat (first | exact Has.here _ | apply Has.there)) (p_load Tryz.isAgg39 (fun _=>rfl) (by rfl)) rfl rfl ?_
   refine op_wg (fun _=>rfl) (p_len_slice Tryz.underlying39 (fun _=>rfl)) rfl rfl ?_
   first | refine op_wg (fun _=>rfl) (p_gtr_nat (fun _=>rfl) (fun _=>rfl)) rfl rfl ?_ | refine op_wg (fun _=>rfl) (p_gtr (fun _=>rfl) (fun _=>rfl)) rfl rfl ?_
   refine op_v (p_pick_f (fun _=>rfl) (fun _=>rfl)) ?_
   refine op_v (p_move (fun _=>rfl)) ?_
   first | refine ops_split (t := 22) (fun _=>rfl) rfl (fun hc3 => ?_) (fun hc3 => ?_) | refine ops_split_bool (t := 22) (fun _=>rfl) rfl (fun hc3 => ?_) (fun hc3 => ?_)
   ·
    exfalso; omega
   ·
    refine op_wg (fun _=>rfl) (p_move (fun _=>rfl)) rfl rfl ?_
    refine op_wg (fun _=>rfl) (p_len_str Tryz.underlying9 (fun _=>rfl)) rfl rfl ?_
    refine op_wg (fun _=>rfl) (p_move (fun _=>rfl)) rfl rfl ?_
    refine op_wg (fun _=>rfl) (p_nilChk (fun _=>rfl) rfl) rfl rfl ?_
    refine op_wg (fun _=>rfl) (p_fieldAddr0 (off := 0) Tryz.underlying77 rfl rfl Tryz.sizeOf39 (fun _=>rfl)) rfl rfl ?_
    refine op_rg (fun _=>rfl) (by repeat (first | exact Has.here _ | apply Has.there)) (p_load Tryz.isAgg39 (fun _=>rfl) (by rfl)) rfl rfl ?_
    refine op_wg (fun _=>rfl) (p_len_slice Tryz.underlying39 (fun _=>rfl)) rfl rfl ?_
    refine op_wg (fun _=>rfl) (p_move (fun _=>rfl)) rfl rfl ?_
    first | (refine op_wg (fun _=>rfl) (p_sub_nat (fun _=>rfl) (fun _=>rfl) ?_ ?_) rfl rfl ?_; (focus (omega)); (focus (omega))) | (refine op_wg (fun _=>rfl) (p_sub (fun _=>rfl) (fun _=>rfl) (IntWalk.i64_in _ ?_)) rfl rfl ?_; (focus (omega)))
    first | refine op_wg (fun _=>rfl) (p_gtr_nat (fun _=>rfl) (fun _=>rfl)) rfl rfl ?_ | refine op_wg (fun _=>rfl) (p_gtr (fun _=>rfl) (fun _=>rfl)) rfl rfl ?_
    refine op_v (p_pick_f (fun _=>rfl) (fun _=>rfl)) ?_
    refine ops_nil ?_
    refine nx_slots (env' := [(0, _), (1, _), (2, _), (33, _)]) [0, 1, 2, 33] rfl (fun _=>rfl) ?_
    refine nx_next ?_
    first | refine at_if (fun _=>rfl) (fun hc4 => ?_) (fun hc4 => ?_) | refine at_if_bool (fun _=>rfl) (fun hc4 => ?_) (fun hc4 => ?_)
    ·
     exfalso; omega
    ·
     refine at_skip ?_
     refine nx_next ?_
     refine at_seq ?_
     refine at_region ?_
     refine op_v (p_move (fun _=>rfl)) ?_
     refine op_v (p_move (fun _=>rfl)) ?_
     refine op_v (p_nilChk (fun _=>rfl) rfl) ?_
     refine op_v (p_fieldAddr0 (off := 1) Tryz.underlying77 rfl rfl Tryz.sizeOf75 (fun _=>rfl)) ?_
     refine op_r (by repeat (first | exact Has.here _ | apply Has.there)) (p_load Tryz.isAgg75 (fun _=>rfl) (by rfl)) rfl rfl ?_
     refine op_v (p_move (fun _=>rfl)) ?_
     refine op_v (p_move (fun _=>rfl)) ?_
     refine op_v (p_build (vs := [(0, _), (1, _)]) (cs := #[_, _]) (fun _=>rfl) (run_build_struct (pl := #[(0, 1), (1, 1)]) Tryz.zeroValue112 Tryz.underlying112 (fun _ => by kernel_rfl) rfl)) ?_
     refine op_e (w_buildSlice (vs := [_]) (cs := [_, _]) Tryz.underlying75 Tryz.sizeOf112 Tryz.zeroValue112 (fun _=>rfl) rfl rfl rfl rfl rfl) (fun _=>rfl) rfl rfl ?_
     rintro _ _ ⟨g5, rfl, rfl⟩
     refine op_e (w_appendS (by_ := 24) (sz := 2) (news := [_, _]) Tryz.underlying75 (rfl : Tryz.prog.info? 112 = some Tryz.t112) rfl rfl rfl rfl (fun _=>rfl) hp (fun _=>rfl) (by repeat (first | exact One.here _ _ | apply One.there)) (by repeat (first | exact Has.here _ | apply Has.there)) (by rfl) rfl (by simp [Value.oneCell', Value.cells]) (by decide) (by omega) (by omega)) (fun _=>rfl) rfl rfl ?_
     rintro _ _ ⟨sq, hrq, rfl⟩
     obtain ⟨gq, cq, rfl⟩ := hrq.form
     refine op_v (p_nilChk (fun _=>rfl) rfl) ?_
     refine op_v (p_fieldAddr0 (off := 1) Tryz.underlying77 rfl rfl Tryz.sizeOf75 (fun _=>rfl)) ?_
     refine op_e (w_store Tryz.sizeOf75 (fun _=>rfl) (fun _=>rfl) rfl (by repeat (first | exact Upd.here _ | apply Upd.there)) (by rfl) (by first | decide | exact Nat.le_refl _ | (simp; done) | (simp; omega)) (by exact free_zero _)) (fun _=>rfl) rfl rfl ?_
     rintro _ _ ⟨rfl, rfl⟩
     refine ops_nil ?_
     refine nx_slots (env' := [(0, _)]) [0] rfl (fun _=>rfl) ?_
     refine nx_next ?_
     refine at_seq ?_
     refine at_seq ?_
     refine at_region ?_
     refine op_v (p_move (fun _=>rfl)) ?_
     refine op_v (p_nilChk (fun _=>rfl) rfl) ?_
     refine op_v (p_fieldAddr0 (off := 3) Tryz.underlying77 rfl rfl Tryz.sizeOf3 (fun _=>rfl)) ?_
     refine op_r (by repeat (first | exact Has.here _ | apply Has.there)) (p_load Tryz.isAgg3 (fun _=>rfl) (by rfl)) rfl rfl ?_
     first | refine op_v (p_gtr_nat (n := 0) (fun _=>rfl) (fun _=>rfl)) ?_ | refine op_v (p_gtr (fun _=>rfl) (fun _=>rfl)) ?_
     refine ops_nil ?_
     refine nx_next ?_
     first | refine at_if (fun _=>rfl) (fun hc5 => ?_) (fun hc5 => ?_) | refine at_if_bool (fun _=>rfl) (fun hc5 => ?_) (fun hc5 => ?_)
     ·
      exfalso; omega
     ·
      refine at_skip ?_
      refine nx_next ?_
      refine at_seq ?_
      refine at_region ?_
      refine op_v (p_assign (fun _=>rfl)) ?_
      refine ops_nil ?_
      refine nx_next ?_
      refine at_ret ?_
      refine nx_end1 (H' := _) rfl Tryz.results14 (fun _=>rfl) (by exact ⟨_, sq, rfl, hrq, rfl⟩)

theorem rwrite1 {v pv : Value} {du : List UInt8} {l : List (Nat × List UInt8)} {sv sp : List Chunk} (rp : Nat) (hr : Row 5 v (du.map u8v) sv) (hp : RowS 2 112 pv l.length (pendC l) sp) (hin : ∀ p ∈ l, p.1 + p.2.length ≤ du.length) (hd : du.length ≤ 4194304) (h0 : 1 ≤ du.length) (hl : l.length ≤ 1000000) (o : Nat) (s : List UInt8) (h : o + s.length ≤ du.length) : Does Tryz.prog 14 #[.pointer (some ⟨rp, 0, none⟩), .int .i64 (o : Int), .string (str s)] [[(rp, .cells #[v, pv, .bool false, .int .i64 ((1 : Nat) : Int)] 77 (0, 0))], sv, sp] (fun r H' => ∃ pv' sp', r = .int .i64 0 ∧ RowS 2 112 pv' (l.length + 1) (pendC l ++ [.int .i64 (o : Int), .string (str s)]) sp' ∧ H' = [[(rp, .cells #[v, pv', .bool (usedOff false (1 : Nat)), .int .i64 ((usedLeft (1 : Nat) : Nat) : Int)] 77 (0, 0))], sv, sp']) := by
 have hml : maxLen = 9223372036854775807 := rfl
 obtain ⟨b0, c0, hv0⟩ := hr.form
 rw [List.length_map] at hv0
 subst hv0
 obtain ⟨b1, c1, rfl⟩ := hp.form
 have hss := str_size s
 refine spec_enter Tryz.func14 rfl Tryz.ntmps14 rfl ?_
 intro u R
 refine at_slots (env' := [(0, _), (1, _), (2, _)]) [0, 1, 2] rfl (fun _=>rfl) ?_
 refine at_seq ?_
 refine at_region ?_
 refine op_v (p_assign (fun _=>rfl)) ?_
 refine ops_nil ?_
 refine nx_next ?_
 refine at_seq ?_
 refine at_seq ?_
 refine at_region ?_
 refine op_v (p_move (fun _=>rfl)) ?_
 refine op_v (p_nilChk (fun _=>rfl) rfl) ?_
 refine op_v (p_fieldAddr0 (off := 2) Tryz.underlying77 rfl rfl Tryz.sizeOf4 (fun _=>rfl)) ?_
 refine op_r (by repeat (first | exact Has.here _ | apply Has.there)) (p_load Tryz.isAgg4 (fun _=>rfl) (by rfl)) rfl rfl ?_
 refine ops_nil ?_
 refine nx_next ?_
 refine at_if_bool (fun _=>rfl) (fun hc1 => ?_) (fun hc1 => ?_)
 ·
  cases hc1
 ·
  refine at_skip ?_
  refine nx_next ?_
  refine at_seq ?_
  refine at_seq ?_
  refine at_region ?_
  refine op_v (p_move (fun _=>rfl)) ?_
  first | refine op_v (p_lss_nat (n := 0) (fun _=>rfl) (fun _=>rfl)) ?_ | refine op_v (p_lss (fun _=>rfl) (fun _=>rfl)) ?_
  refine op_v (p_move (fun _=>rfl)) ?_
  first | refine ops_split (t := 13) (fun _=>rfl) rfl (fun hc2 => ?_) (fun hc2 => ?_) | refine ops_split_bool (t := 13) (fun _=>rfl) rfl (fun hc2 => ?_) (fun hc2 => ?_)
  ·
   exfalso; omega
  ·
   refine op_wg (fun _=>rfl) (p_move (fun _=>rfl)) rfl rfl ?_
   refine op_wg (fun _=>rfl) (p_move (fun _=>rfl)) rfl rfl ?_
   refine op_wg (fun _=>rfl) (p_nilChk (fun _=>rfl) rfl) rfl rfl ?_
   refine op_wg (fun _=>rfl) (p_fieldAddr0 (off := 0) Tryz.underlying77 rfl rfl Tryz.sizeOf39 (fun _=>rfl)) rfl rfl ?_
   refine op_rg (fun _=>rfl) (by repeat (first | exact Has.here _ | apply Has.there)) (p_load Tryz.isAgg39 (fun _=>rfl) (by rfl)) rfl rfl ?_
   refine op_wg (fun _=>rfl) (p_len_slice Tryz.underlying39 (fun _=>rfl)) rfl rfl ?_
   first | refine op_wg (fun _=>rfl) (p_gtr_nat (fun _=>rfl) (fun _=>rfl)) rfl rfl ?_ | refine op_wg (fun _=>rfl) (p_gtr (fun _=>rfl) (fun _=>rfl)) rfl rfl ?_
   refine op_v (p_pick_f (fun _=>rfl) (fun _=>rfl)) ?_
   refine op_v (p_move (fun _=>rfl)) ?_
   first | refine ops_split (t := 22) (fun _=>rfl) rfl (fun hc3 => ?_) (fun hc3 => ?_) | refine ops_split_bool (t := 22) (fun _=>rfl) rfl (fun hc3 => ?_) (fun hc3 => ?_)
   ·
    exfalso; omega
   ·
    refine op_wg (fun _=>rfl) (p_move (fun _=>rfl)) rfl rfl ?_
    refine op_wg (fun _=>rfl) (p_len_str Tryz.underlying9 (fun _=>rfl)) rfl rfl ?_
    refine op_wg (fun _=>rfl) (p_move (fun _=>rfl)) rfl rfl ?_
    refine op_wg (fun _=>rfl) (p_nilChk (fun _=>rfl) rfl) rfl rfl ?_
    refine op_wg (fun _=>rfl) (p_fieldAddr0 (off := 0) Tryz.underlying77 rfl rfl Tryz.sizeOf39 (fun _=>rfl)) rfl rfl ?_
    refine op_rg (fun _=>rfl) (by repeat (first | exact Has.here _ | apply Has.there)) (p_load Tryz.isAgg39 (fun _=>rfl) (by rfl)) rfl rfl ?_
    refine op_wg (fun _=>rfl) (p_len_slice Tryz.underlying39 (fun _=>rfl)) rfl rfl ?_
    refine op_wg (fun _=>rfl) (p_move (fun _=>rfl)) rfl rfl ?_
    first | (refine op_wg (fun _=>rfl) (p_sub_nat (fun _=>rfl) (fun _=>rfl) ?_ ?_) rfl rfl ?_; (focus (omega)); (focus (omega))) | (refine op_wg (fun _=>rfl) (p_sub (fun _=>rfl) (fun _=>rfl) (IntWalk.i64_in _ ?_)) rfl rfl ?_; (focus (omega)))
    first | refine op_wg (fun _=>rfl) (p_gtr_nat (fun _=>rfl) (fun _=>rfl)) rfl rfl ?_ | refine op_wg (fun _=>rfl) (p_gtr (fun _=>rfl) (fun _=>rfl)) rfl rfl ?_
    refine op_v (p_pick_f (fun _=>rfl) (fun _=>rfl)) ?_
    refine ops_nil ?_
    refine nx_slots (env' := [(0, _), (1, _), (2, _), (33, _)]) [0, 1, 2, 33] rfl (fun _=>rfl) ?_
    refine nx_next ?_
    first | refine at_if (fun _=>rfl) (fun hc4 => ?_) (fun hc4 => ?_) | refine at_if_bool (fun _=>rfl) (fun hc4 => ?_) (fun hc4 => ?_)
    ·
     exfalso; omega
    ·
     refine at_skip ?_
     refine nx_next ?_
     refine at_seq ?_
     refine at_region ?_
     refine op_v (p_move (fun _=>rfl)) ?_
     refine op_v (p_move (fun _=>rfl)) ?_
     refine op_v (p_nilChk (fun _=>rfl) rfl) ?_
     refine op_v (p_fieldAddr0 (off := 1) Tryz.underlying77 rfl rfl Tryz.sizeOf75 (fun _=>rfl)) ?_
     refine op_r (by repeat (first | exact Has.here _ | apply Has.there)) (p_load Tryz.isAgg75 (fun _=>rfl) (by rfl)) rfl rfl ?_
     refine op_v (p_move (fun _=>rfl)) ?_
     refine op_v (p_move (fun _=>rfl)) ?_
     refine op_v (p_build (vs := [(0, _), (1, _)]) (cs := #[_, _]) (fun _=>rfl) (run_build_struct (pl := #[(0, 1), (1, 1)]) Tryz.zeroValue112 Tryz.underlying112 (fun _ => by kernel_rfl) rfl)) ?_
     refine op_e (w_buildSlice (vs := [_]) (cs := [_, _]) Tryz.underlying75 Tryz.sizeOf112 Tryz.zeroValue112 (fun _=>rfl) rfl rfl rfl rfl rfl) (fun _=>rfl) rfl rfl ?_
     rintro _ _ ⟨g5, rfl, rfl⟩
     refine op_e (w_appendS (by_ := 24) (sz := 2) (news := [_, _]) Tryz.underlying75 (rfl : Tryz.prog.info? 112 = some Tryz.t112) rfl rfl rfl rfl (fun _=>rfl) hp (fun _=>rfl) (by repeat (first | exact One.here _ _ | apply One.there)) (by repeat (first | exact Has.here _ | apply Has.there)) (by rfl) rfl (by simp [Value.oneCell', Value.cells]) (by decide) (by omega) (by omega)) (fun _=>rfl) rfl rfl ?_
     rintro _ _ ⟨sq, hrq, rfl⟩
     obtain ⟨gq, cq, rfl⟩ := hrq.form
     refine op_v (p_nilChk (fun _=>rfl) rfl) ?_
     refine op_v (p_fieldAddr0 (off := 1) Tryz.underlying77 rfl rfl Tryz.sizeOf75 (fun _=>rfl)) ?_
     refine op_e (w_store Tryz.sizeOf75 (fun _=>rfl) (fun _=>rfl) rfl (by repeat (first | exact Upd.here _ | apply Upd.there)) (by rfl) (by first | decide | exact Nat.le_refl _ | (simp; done) | (simp; omega)) (by exact free_zero _)) (fun _=>rfl) rfl rfl ?_
     rintro _ _ ⟨rfl, rfl⟩
     refine ops_nil ?_
     refine nx_slots (env' := [(0, _)]) [0] rfl (fun _=>rfl) ?_
     refine nx_next ?_
     refine at_seq ?_
     refine at_seq ?_
     refine at_region ?_
     refine op_v (p_move (fun _=>rfl)) ?_
     refine op_v (p_nilChk (fun _=>rfl) rfl) ?_
     refine op_v (p_fieldAddr0 (off := 3) Tryz.underlying77 rfl rfl Tryz.sizeOf3 (fun _=>rfl)) ?_
     refine op_r (by repeat (first | exact Has.here _ | apply Has.there)) (p_load Tryz.isAgg3 (fun _=>rfl) (by rfl)) rfl rfl ?_
     first | refine op_v (p_gtr_nat (n := 0) (fun _=>rfl) (fun _=>rfl)) ?_ | refine op_v (p_gtr (fun _=>rfl) (fun _=>rfl)) ?_
     refine ops_nil ?_
     refine nx_next ?_
     first | refine at_if (fun _=>rfl) (fun hc5 => ?_) (fun hc5 => ?_) | refine at_if_bool (fun _=>rfl) (fun hc5 => ?_) (fun hc5 => ?_)
     ·
      refine at_seq ?_
      refine at_region ?_
      refine op_v (p_move (fun _=>rfl)) ?_
      refine op_v (p_nilChk (fun _=>rfl) rfl) ?_
      refine op_v (p_fieldAddr0 (off := 3) Tryz.underlying77 rfl rfl Tryz.sizeOf3 (fun _=>rfl)) ?_
      refine op_r (by repeat (first | exact Has.here _ | apply Has.there)) (p_load Tryz.isAgg3 (fun _=>rfl) (by rfl)) rfl rfl ?_
      first | (refine op_v (p_sub_nat (n := 1) (fun _=>rfl) (fun _=>rfl) ?_ ?_) ?_; (focus (omega)); (focus (omega))) | (refine op_v (p_sub (fun _=>rfl) (fun _=>rfl) (IntWalk.i64_in _ ?_)) ?_; (focus (omega)))
      refine op_v (p_nilChk (fun _=>rfl) rfl) ?_
      refine op_v (p_fieldAddr0 (off := 3) Tryz.underlying77 rfl rfl Tryz.sizeOf3 (fun _=>rfl)) ?_
      refine op_e (w_store Tryz.sizeOf3 (fun _=>rfl) (fun _=>rfl) rfl (by repeat (first | exact Upd.here _ | apply Upd.there)) (by rfl) (by first | decide | exact Nat.le_refl _ | (simp; done) | (simp; omega)) (by exact free_zero _)) (fun _=>rfl) rfl rfl ?_
      rintro _ _ ⟨rfl, rfl⟩
      refine ops_nil ?_
      refine nx_slots (env' := [(0, _)]) [0] rfl (fun _=>rfl) ?_
      refine nx_next ?_
      refine at_seq ?_
      refine at_region ?_
      refine op_v (p_move (fun _=>rfl)) ?_
      refine op_v (p_nilChk (fun _=>rfl) rfl) ?_
      refine op_v (p_fieldAddr0 (off := 3) Tryz.underlying77 rfl rfl Tryz.sizeOf3 (fun _=>rfl)) ?_
      refine op_r (by repeat (first | exact Has.here _ | apply Has.there)) (p_load Tryz.isAgg3 (fun _=>rfl) (by rfl)) rfl rfl ?_
      first | refine op_v (p_eql_nat (n := 0) (fun _=>rfl) (fun _=>rfl)) ?_ | refine op_v (p_eql (fun _=>rfl) (fun _=>rfl)) ?_
      refine ops_nil ?_
      refine nx_next ?_
      first | refine at_if (fun _=>rfl) (fun hc6 => ?_) (fun hc6 => ?_) | refine at_if_bool (fun _=>rfl) (fun hc6 => ?_) (fun hc6 => ?_)
      ·
       refine at_region ?_
       refine op_v (p_move (fun _=>rfl)) ?_
       refine op_v (p_nilChk (fun _=>rfl) rfl) ?_
       refine op_v (p_fieldAddr0 (off := 2) Tryz.underlying77 rfl rfl Tryz.sizeOf4 (fun _=>rfl)) ?_
       refine op_e (w_store Tryz.sizeOf4 (fun _=>rfl) (fun _=>rfl) rfl (by repeat (first | exact Upd.here _ | apply Upd.there)) (by rfl) (by first | decide | exact Nat.le_refl _ | (simp; done) | (simp; omega)) (by exact free_zero _)) (fun _=>rfl) rfl rfl ?_
       rintro _ _ ⟨rfl, rfl⟩
       refine ops_nil ?_
       refine nx_next ?_
       refine at_seq ?_
       refine at_region ?_
       refine op_v (p_assign (fun _=>rfl)) ?_
       refine ops_nil ?_
       refine nx_next ?_
       refine at_ret ?_
       refine nx_end1 (H' := _) rfl Tryz.results14 (fun _=>rfl) (by exact ⟨_, sq, rfl, hrq, rfl⟩)
      ·
       exfalso; omega
     ·
      exfalso; omega

theorem rwrite2 (m : Nat) (hm : m ≤ 4194304) {v pv : Value} {du : List UInt8} {l : List (Nat × List UInt8)} {sv sp : List Chunk} (rp : Nat) (hr : Row 5 v (du.map u8v) sv) (hp : RowS 2 112 pv l.length (pendC l) sp) (hin : ∀ p ∈ l, p.1 + p.2.length ≤ du.length) (hd : du.length ≤ 4194304) (h0 : 1 ≤ du.length) (hl : l.length ≤ 1000000) (o : Nat) (s : List UInt8) (h : o + s.length ≤ du.length) : Does Tryz.prog 14 #[.pointer (some ⟨rp, 0, none⟩), .int .i64 (o : Int), .string (str s)] [[(rp, .cells #[v, pv, .bool false, .int .i64 ((m + 2 : Nat) : Int)] 77 (0, 0))], sv, sp] (fun r H' => ∃ pv' sp', r = .int .i64 0 ∧ RowS 2 112 pv' (l.length + 1) (pendC l ++ [.int .i64 (o : Int), .string (str s)]) sp' ∧ H' = [[(rp, .cells #[v, pv', .bool (usedOff false (m + 2 : Nat)), .int .i64 ((usedLeft (m + 2 : Nat) : Nat) : Int)] 77 (0, 0))], sv, sp']) := by
 have hml : maxLen = 9223372036854775807 := rfl
 obtain ⟨b0, c0, hv0⟩ := hr.form
 rw [List.length_map] at hv0
 subst hv0
 obtain ⟨b1, c1, rfl⟩ := hp.form
 have hss := str_size s
 refine spec_enter Tryz.func14 rfl Tryz.ntmps14 rfl ?_
 intro u R
 refine at_slots (env' := [(0, _), (1, _), (2, _)]) [0, 1, 2] rfl (fun _=>rfl) ?_
 refine at_seq ?_
 refine at_region ?_
 refine op_v (p_assign (fun _=>rfl)) ?_
 refine ops_nil ?_
 refine nx_next ?_
 refine at_seq ?_
 refine at_seq ?_
 refine at_region ?_
 refine op_v (p_move (fun _=>rfl)) ?_
 refine op_v (p_nilChk (fun _=>rfl) rfl) ?_
 refine op_v (p_fieldAddr0 (off := 2) Tryz.underlying77 rfl rfl Tryz.sizeOf4 (fun _=>rfl)) ?_
 refine op_r (by repeat (first | exact Has.here _ | apply Has.there)) (p_load Tryz.isAgg4 (fun _=>rfl) (by rfl)) rfl rfl ?_
 refine ops_nil ?_
 refine nx_next ?_
 refine at_if_bool (fun _=>rfl) (fun hc1 => ?_) (fun hc1 => ?_)
 ·
  cases hc1
 ·
  refine at_skip ?_
  refine nx_next ?_
  refine at_seq ?_
  refine at_seq ?_
  refine at_region ?_
  refine op_v (p_move (fun _=>rfl)) ?_
  first | refine op_v (p_lss_nat (n := 0) (fun _=>rfl) (fun _=>rfl)) ?_ | refine op_v (p_lss (fun _=>rfl) (fun _=>rfl)) ?_
  refine op_v (p_move (fun _=>rfl)) ?_
  first | refine ops_split (t := 13) (fun _=>rfl) rfl (fun hc2 => ?_) (fun hc2 => ?_) | refine ops_split_bool (t := 13) (fun _=>rfl) rfl (fun hc2 => ?_) (fun hc2 => ?_)
  ·
   exfalso; omega
  ·
   refine op_wg (fun _=>rfl) (p_move (fun _=>rfl)) rfl rfl ?_
   refine op_wg (fun _=>rfl) (p_move (fun _=>rfl)) rfl rfl ?_
   refine op_wg (fun _=>rfl) (p_nilChk (fun _=>rfl) rfl) rfl rfl ?_
   refine op_wg (fun _=>rfl) (p_fieldAddr0 (off := 0) Tryz.underlying77 rfl rfl Tryz.sizeOf39 (fun _=>rfl)) rfl rfl ?_
   refine op_rg (fun _=>rfl) (by repeat (first | exact Has.here _ | apply Has.there)) (p_load Tryz.isAgg39 (fun _=>rfl) (by rfl)) rfl rfl ?_
   refine op_wg (fun _=>rfl) (p_len_slice Tryz.underlying39 (fun _=>rfl)) rfl rfl ?_
   first | refine op_wg (fun _=>rfl) (p_gtr_nat (fun _=>rfl) (fun _=>rfl)) rfl rfl ?_ | refine op_wg (fun _=>rfl) (p_gtr (fun _=>rfl) (fun _=>rfl)) rfl rfl ?_
   refine op_v (p_pick_f (fun _=>rfl) (fun _=>rfl)) ?_
   refine op_v (p_move (fun _=>rfl)) ?_
   first | refine ops_split (t := 22) (fun _=>rfl) rfl (fun hc3 => ?_) (fun hc3 => ?_) | refine ops_split_bool (t := 22) (fun _=>rfl) rfl (fun hc3 => ?_) (fun hc3 => ?_)
   ·
    exfalso; omega
   ·
    refine op_wg (fun _=>rfl) (p_move (fun _=>rfl)) rfl rfl ?_
    refine op_wg (fun _=>rfl) (p_len_str Tryz.underlying9 (fun _=>rfl)) rfl rfl ?_
    refine op_wg (fun _=>rfl) (p_move (fun _=>rfl)) rfl rfl ?_
    refine op_wg (fun _=>rfl) (p_nilChk (fun _=>rfl) rfl) rfl rfl ?_
    refine op_wg (fun _=>rfl) (p_fieldAddr0 (off := 0) Tryz.underlying77 rfl rfl Tryz.sizeOf39 (fun _=>rfl)) rfl rfl ?_
    refine op_rg (fun _=>rfl) (by repeat (first | exact Has.here _ | apply Has.there)) (p_load Tryz.isAgg39 (fun _=>rfl) (by rfl)) rfl rfl ?_
    refine op_wg (fun _=>rfl) (p_len_slice Tryz.underlying39 (fun _=>rfl)) rfl rfl ?_
    refine op_wg (fun _=>rfl) (p_move (fun _=>rfl)) rfl rfl ?_
    first | (refine op_wg (fun _=>rfl) (p_sub_nat (fun _=>rfl) (fun _=>rfl) ?_ ?_) rfl rfl ?_; (focus (omega)); (focus (omega))) | (refine op_wg (fun _=>rfl) (p_sub (fun _=>rfl) (fun _=>rfl) (IntWalk.i64_in _ ?_)) rfl rfl ?_; (focus (omega)))
    first | refine op_wg (fun _=>rfl) (p_gtr_nat (fun _=>rfl) (fun _=>rfl)) rfl rfl ?_ | refine op_wg (fun _=>rfl) (p_gtr (fun _=>rfl) (fun _=>rfl)) rfl rfl ?_
    refine op_v (p_pick_f (fun _=>rfl) (fun _=>rfl)) ?_
    refine ops_nil ?_
    refine nx_slots (env' := [(0, _), (1, _), (2, _), (33, _)]) [0, 1, 2, 33] rfl (fun _=>rfl) ?_
    refine nx_next ?_
    first | refine at_if (fun _=>rfl) (fun hc4 => ?_) (fun hc4 => ?_) | refine at_if_bool (fun _=>rfl) (fun hc4 => ?_) (fun hc4 => ?_)
    ·
     exfalso; omega
    ·
     refine at_skip ?_
     refine nx_next ?_
     refine at_seq ?_
     refine at_region ?_
     refine op_v (p_move (fun _=>rfl)) ?_
     refine op_v (p_move (fun _=>rfl)) ?_
     refine op_v (p_nilChk (fun _=>rfl) rfl) ?_
     refine op_v (p_fieldAddr0 (off := 1) Tryz.underlying77 rfl rfl Tryz.sizeOf75 (fun _=>rfl)) ?_
     refine op_r (by repeat (first | exact Has.here _ | apply Has.there)) (p_load Tryz.isAgg75 (fun _=>rfl) (by rfl)) rfl rfl ?_
     refine op_v (p_move (fun _=>rfl)) ?_
     refine op_v (p_move (fun _=>rfl)) ?_
     refine op_v (p_build (vs := [(0, _), (1, _)]) (cs := #[_, _]) (fun _=>rfl) (run_build_struct (pl := #[(0, 1), (1, 1)]) Tryz.zeroValue112 Tryz.underlying112 (fun _ => by kernel_rfl) rfl)) ?_
     refine op_e (w_buildSlice (vs := [_]) (cs := [_, _]) Tryz.underlying75 Tryz.sizeOf112 Tryz.zeroValue112 (fun _=>rfl) rfl rfl rfl rfl rfl) (fun _=>rfl) rfl rfl ?_
     rintro _ _ ⟨g5, rfl, rfl⟩
     refine op_e (w_appendS (by_ := 24) (sz := 2) (news := [_, _]) Tryz.underlying75 (rfl : Tryz.prog.info? 112 = some Tryz.t112) rfl rfl rfl rfl (fun _=>rfl) hp (fun _=>rfl) (by repeat (first | exact One.here _ _ | apply One.there)) (by repeat (first | exact Has.here _ | apply Has.there)) (by rfl) rfl (by simp [Value.oneCell', Value.cells]) (by decide) (by omega) (by omega)) (fun _=>rfl) rfl rfl ?_
     rintro _ _ ⟨sq, hrq, rfl⟩
     obtain ⟨gq, cq, rfl⟩ := hrq.form
     refine op_v (p_nilChk (fun _=>rfl) rfl) ?_
     refine op_v (p_fieldAddr0 (off := 1) Tryz.underlying77 rfl rfl Tryz.sizeOf75 (fun _=>rfl)) ?_
     refine op_e (w_store Tryz.sizeOf75 (fun _=>rfl) (fun _=>rfl) rfl (by repeat (first | exact Upd.here _ | apply Upd.there)) (by rfl) (by first | decide | exact Nat.le_refl _ | (simp; done) | (simp; omega)) (by exact free_zero _)) (fun _=>rfl) rfl rfl ?_
     rintro _ _ ⟨rfl, rfl⟩
     refine ops_nil ?_
     refine nx_slots (env' := [(0, _)]) [0] rfl (fun _=>rfl) ?_
     refine nx_next ?_
     refine at_seq ?_
     refine at_seq ?_
     refine at_region ?_
     refine op_v (p_move (fun _=>rfl)) ?_
     refine op_v (p_nilChk (fun _=>rfl) rfl) ?_
     refine op_v (p_fieldAddr0 (off := 3) Tryz.underlying77 rfl rfl Tryz.sizeOf3 (fun _=>rfl)) ?_
     refine op_r (by repeat (first | exact Has.here _ | apply Has.there)) (p_load Tryz.isAgg3 (fun _=>rfl) (by rfl)) rfl rfl ?_
     first | refine op_v (p_gtr_nat (n := 0) (fun _=>rfl) (fun _=>rfl)) ?_ | refine op_v (p_gtr (fun _=>rfl) (fun _=>rfl)) ?_
     refine ops_nil ?_
     refine nx_next ?_
     first | refine at_if (fun _=>rfl) (fun hc5 => ?_) (fun hc5 => ?_) | refine at_if_bool (fun _=>rfl) (fun hc5 => ?_) (fun hc5 => ?_)
     ·
      refine at_seq ?_
      refine at_region ?_
      refine op_v (p_move (fun _=>rfl)) ?_
      refine op_v (p_nilChk (fun _=>rfl) rfl) ?_
      refine op_v (p_fieldAddr0 (off := 3) Tryz.underlying77 rfl rfl Tryz.sizeOf3 (fun _=>rfl)) ?_
      refine op_r (by repeat (first | exact Has.here _ | apply Has.there)) (p_load Tryz.isAgg3 (fun _=>rfl) (by rfl)) rfl rfl ?_
      first | (refine op_v (p_sub_nat (n := 1) (fun _=>rfl) (fun _=>rfl) ?_ ?_) ?_; (focus (omega)); (focus (omega))) | (refine op_v (p_sub (fun _=>rfl) (fun _=>rfl) (IntWalk.i64_in _ ?_)) ?_; (focus (omega)))
      refine op_v (p_nilChk (fun _=>rfl) rfl) ?_
      refine op_v (p_fieldAddr0 (off := 3) Tryz.underlying77 rfl rfl Tryz.sizeOf3 (fun _=>rfl)) ?_
      refine op_e (w_store Tryz.sizeOf3 (fun _=>rfl) (fun _=>rfl) rfl (by repeat (first | exact Upd.here _ | apply Upd.there)) (by rfl) (by first | decide | exact Nat.le_refl _ | (simp; done) | (simp; omega)) (by exact free_zero _)) (fun _=>rfl) rfl rfl ?_
      rintro _ _ ⟨rfl, rfl⟩
      refine ops_nil ?_
      refine nx_slots (env' := [(0, _)]) [0] rfl (fun _=>rfl) ?_
      refine nx_next ?_
      refine at_seq ?_
      refine at_region ?_
      refine op_v (p_move (fun _=>rfl)) ?_
      refine op_v (p_nilChk (fun _=>rfl) rfl) ?_
      refine op_v (p_fieldAddr0 (off := 3) Tryz.underlying77 rfl rfl Tryz.sizeOf3 (fun _=>rfl)) ?_
      refine op_r (by repeat (first | exact Has.here _ | apply Has.there)) (p_load Tryz.isAgg3 (fun _=>rfl) (by rfl)) rfl rfl ?_
      first | refine op_v (p_eql_nat (n := 0) (fun _=>rfl) (fun _=>rfl)) ?_ | refine op_v (p_eql (fun _=>rfl) (fun _=>rfl)) ?_
      refine ops_nil ?_
      refine nx_next ?_
      first | refine at_if (fun _=>rfl) (fun hc6 => ?_) (fun hc6 => ?_) | refine at_if_bool (fun _=>rfl) (fun hc6 => ?_) (fun hc6 => ?_)
      ·
       exfalso; omega
      ·
       rw [show (Value.bool false) = .bool (usedOff false (m + 2)) from by unfold usedOff; simp]
       refine at_skip ?_
       refine nx_next ?_
       refine at_seq ?_
       refine at_region ?_
       refine op_v (p_assign (fun _=>rfl)) ?_
       refine ops_nil ?_
       refine nx_next ?_
       refine at_ret ?_
       refine nx_end1 (H' := _) rfl Tryz.results14 (fun _=>rfl) (by exact ⟨_, sq, rfl, hrq, rfl⟩)
     ·
      exfalso; omega

theorem rwrite_off (rp : Nat) (v pv lv : Value) (o : Int) (s : ByteArray) : DoesR Tryz.prog 14 #[.pointer (some ⟨rp, 0, none⟩), .int .i64 o, .string s] [[(rp, .cells #[v, pv, .bool true, lv] 77 (0, 0))]] (.int .i64 221) := by
 refine spec_enter Tryz.func14 rfl Tryz.ntmps14 rfl ?_
 intro u R
 refine at_slots (env' := [(0, _), (1, _), (2, _)]) [0, 1, 2] rfl (fun _=>rfl) ?_
 refine at_seq ?_
 refine at_region ?_
 refine op_v (p_assign (fun _=>rfl)) ?_
 refine ops_nil ?_
 refine nx_next ?_
 refine at_seq ?_
 refine at_seq ?_
 refine at_region ?_
 refine op_v (p_move (fun _=>rfl)) ?_
 refine op_v (p_nilChk (fun _=>rfl) rfl) ?_
 refine op_v (p_fieldAddr0 (off := 2) Tryz.underlying77 rfl rfl Tryz.sizeOf4 (fun _=>rfl)) ?_
 refine op_r (by repeat (first | exact Has.here _ | apply Has.there)) (p_load Tryz.isAgg4 (fun _=>rfl) (by rfl)) rfl rfl ?_
 refine ops_nil ?_
 refine nx_next ?_
 refine at_if_bool (fun _=>rfl) (fun hc1 => ?_) (fun hc1 => ?_)
 ·
  refine at_seq ?_
  refine at_region ?_
  refine op_v (p_assign (fun _=>rfl)) ?_
  refine ops_nil ?_
  refine nx_next ?_
  refine at_ret ?_
  refine nx_thru (by intro h; cases h) ?_
  refine nx_end1 (H' := _) rfl Tryz.results14 (fun _=>rfl) (by exact ⟨rfl, rfl⟩)
 ·
  cases hc1

theorem rsync_on {v pv : Value} {du : List UInt8} {l : List (Nat × List UInt8)} {sv sp : List Chunk} (rp left : Nat) (hr : Row 5 v (du.map u8v) sv) (hp : RowS 2 112 pv l.length (pendC l) sp) (hin : ∀ p ∈ l, p.1 + p.2.length ≤ du.length) (hd : du.length ≤ 4194304) (h0 : 1 ≤ du.length) (hl : l.length ≤ 1000000) : Does Tryz.prog 44 #[.pointer (some ⟨rp, 0, none⟩)] [[(rp, .cells #[v, pv, .bool false, .int .i64 (left : Int)] 77 (0, 0))], sv, sp] (fun r H' => ∃ v' s2, r = .int .i64 0 ∧ Row 5 v' ((vis du l).map u8v) s2 ∧ H' = [[(rp, .cells #[v', .slice none 0 0, .bool false, .int .i64 (left : Int)] 77 (0, 0))], s2]) := by
 refine spec_enter Tryz.func44 rfl Tryz.ntmps44 rfl ?_
 intro u R
 refine at_slots (env' := [(0, _)]) [0] rfl (fun _=>rfl) ?_
 refine at_seq ?_
 refine at_region ?_
 refine op_v (p_assign (fun _=>rfl)) ?_
 refine ops_nil ?_
 refine nx_next ?_
 refine at_seq ?_
 refine at_seq ?_
 refine at_region ?_
 refine op_v (p_move (fun _=>rfl)) ?_
 refine op_v (p_nilChk (fun _=>rfl) rfl) ?_
 refine op_v (p_fieldAddr0 (off := 2) Tryz.underlying77 rfl rfl Tryz.sizeOf4 (fun _=>rfl)) ?_
 refine op_r (by repeat (first | exact Has.here _ | apply Has.there)) (p_load Tryz.isAgg4 (fun _=>rfl) (by rfl)) rfl rfl ?_
 refine ops_nil ?_
 refine nx_next ?_
 refine at_if_bool (fun _=>rfl) (fun hc1 => ?_) (fun hc1 => ?_)
 ·
  cases hc1
 ·
  refine at_skip ?_
  refine nx_next ?_
  refine at_seq ?_
  refine at_region ?_
  refine op_v (p_move (fun _=>rfl)) ?_
  refine op_v (p_move (fun _=>rfl)) ?_
  refine ops_eff (fun _=>rfl) (fits_of rfl) rfl (w_call (vs := [_]) (fun _=>rfl) Tryz.call21 (fun _=>rfl) rfl (rvis_spec false rp left hr hp hin hd h0 hl) (by repeat (first | exact Pull.nil _ | (apply Pull.cons; (focus (repeat (first | exact One.here _ _ | apply One.there))))))) ?_ no_pan
  rintro _ _ ⟨_, ⟨s2, hr2, rfl⟩, rfl⟩
  obtain ⟨b2, c2, hv2⟩ := hr2.form
  subst hv2
  refine op_v (p_nilChk (fun _=>rfl) rfl) ?_
  refine op_v (p_fieldAddr0 (off := 0) Tryz.underlying77 rfl rfl Tryz.sizeOf39 (fun _=>rfl)) ?_
  refine op_e (w_store Tryz.sizeOf39 (fun _=>rfl) (fun _=>rfl) rfl (by repeat (first | exact Upd.here _ | apply Upd.there)) (by rfl) (by first | decide | exact Nat.le_refl _ | (simp; done) | (simp; omega)) (by exact free_zero _)) (fun _=>rfl) rfl rfl ?_
  rintro _ _ ⟨rfl, rfl⟩
  refine ops_nil ?_
  refine nx_next ?_
  refine at_seq ?_
  refine at_region ?_
  refine op_v (p_move (fun _=>rfl)) ?_
  refine op_v (p_nilChk (fun _=>rfl) rfl) ?_
  refine op_v (p_fieldAddr0 (off := 1) Tryz.underlying77 rfl rfl Tryz.sizeOf75 (fun _=>rfl)) ?_
  refine op_e (w_store Tryz.sizeOf75 (fun _=>rfl) (fun _=>rfl) rfl (by repeat (first | exact Upd.here _ | apply Upd.there)) (by rfl) (by first | decide | exact Nat.le_refl _ | (simp; done) | (simp; omega)) (by exact free_zero _)) (fun _=>rfl) rfl rfl ?_
  rintro _ _ ⟨rfl, rfl⟩
  refine ops_nil ?_
  refine nx_slots (env' := []) [] rfl (fun _=>rfl) ?_
  refine nx_next ?_
  refine at_seq ?_
  refine at_region ?_
  refine op_v (p_assign (fun _=>rfl)) ?_
  refine ops_nil ?_
  refine nx_next ?_
  refine at_ret ?_
  refine nx_end1 (H' := _) rfl Tryz.results44 (fun _=>rfl) (by exact ⟨_, s2, rfl, hr2, rfl⟩)

theorem rsync_off (rp : Nat) (v pv lv : Value) : DoesR Tryz.prog 44 #[.pointer (some ⟨rp, 0, none⟩)] [[(rp, .cells #[v, pv, .bool true, lv] 77 (0, 0))]] (.int .i64 221) := by
 refine spec_enter Tryz.func44 rfl Tryz.ntmps44 rfl ?_
 intro u R
 refine at_slots (env' := [(0, _)]) [0] rfl (fun _=>rfl) ?_
 refine at_seq ?_
 refine at_region ?_
 refine op_v (p_assign (fun _=>rfl)) ?_
 refine ops_nil ?_
 refine nx_next ?_
 refine at_seq ?_
 refine at_seq ?_
 refine at_region ?_
 refine op_v (p_move (fun _=>rfl)) ?_
 refine op_v (p_nilChk (fun _=>rfl) rfl) ?_
 refine op_v (p_fieldAddr0 (off := 2) Tryz.underlying77 rfl rfl Tryz.sizeOf4 (fun _=>rfl)) ?_
 refine op_r (by repeat (first | exact Has.here _ | apply Has.there)) (p_load Tryz.isAgg4 (fun _=>rfl) (by rfl)) rfl rfl ?_
 refine ops_nil ?_
 refine nx_next ?_
 refine at_if_bool (fun _=>rfl) (fun hc1 => ?_) (fun hc1 => ?_)
 ·
  refine at_seq ?_
  refine at_region ?_
  refine op_v (p_assign (fun _=>rfl)) ?_
  refine ops_nil ?_
  refine nx_next ?_
  refine at_ret ?_
  refine nx_thru (by intro h; cases h) ?_
  refine nx_end1 (H' := _) rfl Tryz.results44 (fun _=>rfl) (by exact ⟨rfl, rfl⟩)
 ·
  cases hc1

theorem rread_on {v pv : Value} {du : List UInt8} {l : List (Nat × List UInt8)} {sv sp : List Chunk} (rp left : Nat) (hr : Row 5 v (du.map u8v) sv) (hp : RowS 2 112 pv l.length (pendC l) sp) (hin : ∀ p ∈ l, p.1 + p.2.length ≤ du.length) (hd : du.length ≤ 4194304) (h0 : 1 ≤ du.length) (hl : l.length ≤ 1000000) (o m : Nat) (h : o + m ≤ du.length) (ho : o < du.length) : DoesR Tryz.prog 75 #[.pointer (some ⟨rp, 0, none⟩), .int .i64 (o : Int), .int .i64 (m : Int)] [[(rp, .cells #[v, pv, .bool false, .int .i64 (left : Int)] 77 (0, 0))], sv, sp] (.tuple #[.string (str (((vis du l).drop o).take m)), .int .i64 0]) := by
 have hml : maxLen = 9223372036854775807 := rfl
 obtain ⟨b0, c0, hv0⟩ := hr.form
 rw [List.length_map] at hv0
 subst hv0
 obtain ⟨b1, c1, rfl⟩ := hp.form
 have hvl := vis_len du l hin
 refine spec_enter Tryz.func75 rfl Tryz.ntmps75 rfl ?_
 intro u R
 refine at_slots (env' := [(0, _), (1, _), (2, _)]) [0, 1, 2] rfl (fun _=>rfl) ?_
 refine at_seq ?_
 refine at_region ?_
 refine op_v (p_assign (fun _=>rfl)) ?_
 refine op_v (p_assign (fun _=>rfl)) ?_
 refine ops_nil ?_
 refine nx_next ?_
 refine at_seq ?_
 refine at_seq ?_
 refine at_region ?_
 refine op_v (p_move (fun _=>rfl)) ?_
 refine op_v (p_nilChk (fun _=>rfl) rfl) ?_
 refine op_v (p_fieldAddr0 (off := 2) Tryz.underlying77 rfl rfl Tryz.sizeOf4 (fun _=>rfl)) ?_
 refine op_r (by repeat (first | exact Has.here _ | apply Has.there)) (p_load Tryz.isAgg4 (fun _=>rfl) (by rfl)) rfl rfl ?_
 refine ops_nil ?_
 refine nx_next ?_
 refine at_if_bool (fun _=>rfl) (fun hc1 => ?_) (fun hc1 => ?_)
 ·
  cases hc1
 ·
  refine at_skip ?_
  refine nx_next ?_
  refine at_seq ?_
  refine at_seq ?_
  refine at_region ?_
  refine op_v (p_move (fun _=>rfl)) ?_
  first | refine op_v (p_lss_nat (n := 0) (fun _=>rfl) (fun _=>rfl)) ?_ | refine op_v (p_lss (fun _=>rfl) (fun _=>rfl)) ?_
  refine op_v (p_move (fun _=>rfl)) ?_
  first | refine ops_split (t := 14) (fun _=>rfl) rfl (fun hc2 => ?_) (fun hc2 => ?_) | refine ops_split_bool (t := 14) (fun _=>rfl) rfl (fun hc2 => ?_) (fun hc2 => ?_)
  ·
   exfalso; omega
  ·
   refine op_wg (fun _=>rfl) (p_move (fun _=>rfl)) rfl rfl ?_
   first | refine op_wg (fun _=>rfl) (p_lss_nat (n := 0) (fun _=>rfl) (fun _=>rfl)) rfl rfl ?_ | refine op_wg (fun _=>rfl) (p_lss (fun _=>rfl) (fun _=>rfl)) rfl rfl ?_
   refine op_v (p_pick_f (fun _=>rfl) (fun _=>rfl)) ?_
   refine op_v (p_move (fun _=>rfl)) ?_
   first | refine ops_split (t := 18) (fun _=>rfl) rfl (fun hc3 => ?_) (fun hc3 => ?_) | refine ops_split_bool (t := 18) (fun _=>rfl) rfl (fun hc3 => ?_) (fun hc3 => ?_)
   ·
    exfalso; omega
   ·
    refine op_wg (fun _=>rfl) (p_move (fun _=>rfl)) rfl rfl ?_
    refine op_wg (fun _=>rfl) (p_move (fun _=>rfl)) rfl rfl ?_
    refine op_wg (fun _=>rfl) (p_nilChk (fun _=>rfl) rfl) rfl rfl ?_
    refine op_wg (fun _=>rfl) (p_fieldAddr0 (off := 0) Tryz.underlying77 rfl rfl Tryz.sizeOf39 (fun _=>rfl)) rfl rfl ?_
    refine op_rg (fun _=>rfl) (by repeat (first | exact Has.here _ | apply Has.there)) (p_load Tryz.isAgg39 (fun _=>rfl) (by rfl)) rfl rfl ?_
    refine op_wg (fun _=>rfl) (p_len_slice Tryz.underlying39 (fun _=>rfl)) rfl rfl ?_
    first | refine op_wg (fun _=>rfl) (p_gtr_nat (fun _=>rfl) (fun _=>rfl)) rfl rfl ?_ | refine op_wg (fun _=>rfl) (p_gtr (fun _=>rfl) (fun _=>rfl)) rfl rfl ?_
    refine op_v (p_pick_f (fun _=>rfl) (fun _=>rfl)) ?_
    refine op_v (p_move (fun _=>rfl)) ?_
    first | refine ops_split (t := 27) (fun _=>rfl) rfl (fun hc4 => ?_) (fun hc4 => ?_) | refine ops_split_bool (t := 27) (fun _=>rfl) rfl (fun hc4 => ?_) (fun hc4 => ?_)
    ·
     exfalso; omega
    ·
     refine op_wg (fun _=>rfl) (p_move (fun _=>rfl)) rfl rfl ?_
     refine op_wg (fun _=>rfl) (p_move (fun _=>rfl)) rfl rfl ?_
     refine op_wg (fun _=>rfl) (p_nilChk (fun _=>rfl) rfl) rfl rfl ?_
     refine op_wg (fun _=>rfl) (p_fieldAddr0 (off := 0) Tryz.underlying77 rfl rfl Tryz.sizeOf39 (fun _=>rfl)) rfl rfl ?_
     refine op_rg (fun _=>rfl) (by repeat (first | exact Has.here _ | apply Has.there)) (p_load Tryz.isAgg39 (fun _=>rfl) (by rfl)) rfl rfl ?_
     refine op_wg (fun _=>rfl) (p_len_slice Tryz.underlying39 (fun _=>rfl)) rfl rfl ?_
     refine op_wg (fun _=>rfl) (p_move (fun _=>rfl)) rfl rfl ?_
     first | (refine op_wg (fun _=>rfl) (p_sub_nat (fun _=>rfl) (fun _=>rfl) ?_ ?_) rfl rfl ?_; (focus (omega)); (focus (omega))) | (refine op_wg (fun _=>rfl) (p_sub (fun _=>rfl) (fun _=>rfl) (IntWalk.i64_in _ ?_)) rfl rfl ?_; (focus (omega)))
     first | refine op_wg (fun _=>rfl) (p_gtr_nat (fun _=>rfl) (fun _=>rfl)) rfl rfl ?_ | refine op_wg (fun _=>rfl) (p_gtr (fun _=>rfl) (fun _=>rfl)) rfl rfl ?_
     refine op_v (p_pick_f (fun _=>rfl) (fun _=>rfl)) ?_
     refine ops_nil ?_
     refine nx_slots (env' := [(0, _), (1, _), (2, _), (37, _)]) [0, 1, 2, 37] rfl (fun _=>rfl) ?_
     refine nx_next ?_
     first | refine at_if (fun _=>rfl) (fun hc5 => ?_) (fun hc5 => ?_) | refine at_if_bool (fun _=>rfl) (fun hc5 => ?_) (fun hc5 => ?_)
     ·
      exfalso; omega
     ·
      refine at_skip ?_
      refine nx_next ?_
      refine at_seq ?_
      refine at_region ?_
      refine op_v (p_move (fun _=>rfl)) ?_
      refine ops_eff (fun _=>rfl) (fits_of rfl) rfl (w_call (vs := [_]) (fun _=>rfl) Tryz.call21 (fun _=>rfl) rfl (rvis_spec false rp left hr hp hin hd h0 hl) (by repeat (first | exact Pull.nil _ | (apply Pull.cons; (focus (repeat (first | exact One.here _ _ | apply One.there))))))) ?_ no_pan
      rintro _ _ ⟨_, ⟨s2, hr2, rfl⟩, rfl⟩
      obtain ⟨g2, cap2, cur2, z2, hv2, rfl, hle2, hcm2, hcs2, htk2, hfr2⟩ := hr2.some (by rw [List.length_map]; omega)
      subst hv2
      rw [List.length_map] at hle2 htk2 ⊢
      refine op_v (p_move (fun _=>rfl)) ?_
      refine op_v (p_move (fun _=>rfl)) ?_
      refine op_v (p_move (fun _=>rfl)) ?_
      first | (refine op_v (p_add_nat (fun _=>rfl) (fun _=>rfl) ?_) ?_; (focus (omega))) | (refine op_v (p_add (fun _=>rfl) (fun _=>rfl) (IntWalk.i64_in _ ?_)) ?_; (focus (omega)))
      (refine op_v (p_slice_slice Tryz.underlying39 Tryz.sizeOf5 (fun _=>rfl) (fun _=>rfl) (fun _=>rfl) ?_ ?_) ?_; (focus (omega)); (focus (omega)))
      refine op_r (by repeat (first | exact Has.here _ | apply Has.there)) (p_conv_bytes_str (bs := ((vis du l).drop o).take m) Tryz.underlying39 Tryz.underlying5 Tryz.underlying9 (fun _ => cut_from g2 o cap2 _ m (by omega) (by omega)) (by exact ⟨by rw [List.map_take, List.map_drop, ← htk2, List.drop_take, List.take_take]; congr 1; omega, by rw [List.length_take, List.length_drop]; omega⟩)) rfl rfl ?_
      refine op_v (p_assign (fun _=>rfl)) ?_
      refine op_v (p_assign (fun _=>rfl)) ?_
      refine ops_nil ?_
      refine nx_next ?_
      refine at_ret ?_
      refine nx_end2 (H' := _) rfl Tryz.results75 (fun _=>rfl) (fun _=>rfl) (by exact ⟨rfl, rfl⟩)

theorem rread_off (rp : Nat) (v pv lv : Value) (o m : Int) : DoesR Tryz.prog 75 #[.pointer (some ⟨rp, 0, none⟩), .int .i64 o, .int .i64 m] [[(rp, .cells #[v, pv, .bool true, lv] 77 (0, 0))]] (.tuple #[.string (str []), .int .i64 221]) := by
 refine spec_enter Tryz.func75 rfl Tryz.ntmps75 rfl ?_
 intro u R
 refine at_slots (env' := [(0, _), (1, _), (2, _)]) [0, 1, 2] rfl (fun _=>rfl) ?_
 refine at_seq ?_
 refine at_region ?_
 refine op_v (p_assign (fun _=>rfl)) ?_
 refine op_v (p_assign (fun _=>rfl)) ?_
 refine ops_nil ?_
 refine nx_next ?_
 refine at_seq ?_
 refine at_seq ?_
 refine at_region ?_
 refine op_v (p_move (fun _=>rfl)) ?_
 refine op_v (p_nilChk (fun _=>rfl) rfl) ?_
 refine op_v (p_fieldAddr0 (off := 2) Tryz.underlying77 rfl rfl Tryz.sizeOf4 (fun _=>rfl)) ?_
 refine op_r (by repeat (first | exact Has.here _ | apply Has.there)) (p_load Tryz.isAgg4 (fun _=>rfl) (by rfl)) rfl rfl ?_
 refine ops_nil ?_
 refine nx_next ?_
 refine at_if_bool (fun _=>rfl) (fun hc1 => ?_) (fun hc1 => ?_)
 ·
  refine at_seq ?_
  refine at_region ?_
  refine op_v (p_assign (fun _=>rfl)) ?_
  refine op_v (p_assign (fun _=>rfl)) ?_
  refine ops_nil ?_
  refine nx_next ?_
  refine at_ret ?_
  refine nx_thru (by intro h; cases h) ?_
  refine nx_end2 (H' := _) rfl Tryz.results75 (fun _=>rfl) (fun _=>rfl) (by exact ⟨rfl, rfl⟩)
 ·
  cases hc1

theorem rnew_spec (n : Nat) (h1 : 1 ≤ n) (h2 : n ≤ 4194304) : Does Tryz.prog 32 #[.int .i64 (n : Int)] [] (fun r H' => ∃ rp bs, r = .tuple #[.pointer (some ⟨rp, 0, none⟩), .int .i64 0] ∧ H' = [[(rp, .cells #[.slice (some ⟨bs, 0, none⟩) n n, .slice none 0 0, .bool false, .int .i64 0] 77 (0, 0))], [(bs, .cells (List.replicate n (.int .u8 0)).toArray 5 (0, 0))]]) := by
 refine spec_enter Tryz.func32 rfl Tryz.ntmps32 rfl ?_
 intro u R
 refine at_slots (env' := [(0, _)]) [0] rfl (fun _=>rfl) ?_
 refine at_seq ?_
 refine at_region ?_
 refine op_v (p_assign (fun _=>rfl)) ?_
 refine op_v (p_assign (fun _=>rfl)) ?_
 refine ops_nil ?_
 refine nx_next ?_
 refine at_seq ?_
 refine at_seq ?_
 refine at_region ?_
 refine op_v (p_move (fun _=>rfl)) ?_
 first | refine op_v (p_lss_nat (n := 1) (fun _=>rfl) (fun _=>rfl)) ?_ | refine op_v (p_lss (fun _=>rfl) (fun _=>rfl)) ?_
 refine op_v (p_move (fun _=>rfl)) ?_
 first | refine ops_split (t := 6) (fun _=>rfl) rfl (fun hc1 => ?_) (fun hc1 => ?_) | refine ops_split_bool (t := 6) (fun _=>rfl) rfl (fun hc1 => ?_) (fun hc1 => ?_)
 ·
  exfalso; omega
 ·
  refine op_wg (fun _=>rfl) (p_move (fun _=>rfl)) rfl rfl ?_
  first | refine op_wg (fun _=>rfl) (p_gtr_nat (n := 4194304) (fun _=>rfl) (fun _=>rfl)) rfl rfl ?_ | refine op_wg (fun _=>rfl) (p_gtr (fun _=>rfl) (fun _=>rfl)) rfl rfl ?_
  refine op_v (p_pick_f (fun _=>rfl) (fun _=>rfl)) ?_
  refine ops_nil ?_
  refine nx_next ?_
  first | refine at_if (fun _=>rfl) (fun hc2 => ?_) (fun hc2 => ?_) | refine at_if_bool (fun _=>rfl) (fun hc2 => ?_) (fun hc2 => ?_)
  ·
   exfalso; omega
  ·
   refine at_skip ?_
   refine nx_next ?_
   refine at_seq ?_
   refine at_region ?_
   refine op_v (p_move (fun _=>rfl)) ?_
   refine op_e (w_makeSlice (by_ := 1) Tryz.underlying39 (rfl : Tryz.prog.info? 5 = some Tryz.t5) rfl rfl rfl rfl (fun _=>rfl) (fun _=>rfl) ?_ ?_ ?_) (fun _=>rfl) rfl rfl ?_
   (focus (omega))
   (focus (omega))
   (focus (omega))
   rintro _ _ ⟨bs, rfl, rfl⟩
   refine op_v (p_build (vs := [(0, _)]) (cs := #[_, _, _, _]) (fun _=>rfl) (run_build_struct (pl := #[(0, 1), (1, 1), (2, 1), (3, 1)]) Tryz.zeroValue77 Tryz.underlying77 (fun _ => by kernel_rfl) rfl)) ?_
   refine op_e (w_box (fun _=>rfl) (cs := #[_, _, _, _]) rfl) (fun _=>rfl) rfl rfl ?_
   rintro _ _ ⟨rp, rfl, rfl⟩
   refine op_v (p_assign (fun _=>rfl)) ?_
   refine op_v (p_assign (fun _=>rfl)) ?_
   refine ops_nil ?_
   refine nx_slots (env' := [(2, _), (3, _)]) [2, 3] rfl (fun _=>rfl) ?_
   refine nx_next ?_
   refine at_ret ?_
   refine nx_end2 (H' := _) rfl Tryz.results32 (fun _=>rfl) (fun _=>rfl) (by exact ⟨rp, bs, rfl, rfl⟩)

def DiskS.coh (d : DiskS) : Prop := d.vi = vis d.du d.pend ∧ ∀ p ∈ d.pend, p.1 + p.2.length ≤ d.du.length
/-- The memory s is a disk of the reference in the state d. -/
def RdR (d : DiskS) (rp : Nat) (s : List Chunk) : Prop := d.ok ∧ d.coh ∧ ∃ v pv sv sp, Row 5 v (d.du.map u8v) sv ∧ RowS 2 112 pv d.pend.length (pendC d.pend) sp ∧
  s = (rp, .cells #[v, pv, .bool d.off, .int .i64 (d.left : Int)] 77 (0, 0)) :: (sv ++ sp)
theorem coh_write {d : DiskS} (h : d.coh) (hl : d.du.length = d.vi.length) (o : Nat) (b : List UInt8) (hb : o + b.length ≤ d.vi.length) : (d.write o b).2.coh := by
  obtain ⟨off, left, du, vi, pend⟩ := d
  obtain ⟨h1, h2⟩ := h
  simp only at h1 h2 hl hb
  unfold DiskS.write
  cases off
  · refine ⟨by show splice vi o b = vis du (pend ++ [(o, b)]); rw [vis_snoc, ← h1], fun p hp => ?_⟩
    rcases List.mem_append.1 hp with hp | hp
    · exact h2 p hp
    · rw [List.mem_singleton.1 hp]; show o + b.length ≤ du.length; omega
  · exact ⟨h1, h2⟩
theorem coh_sync {d : DiskS} (h : d.coh) : d.sync.2.coh := by
  unfold DiskS.sync
  split
  · exact h
  · exact ⟨rfl, by simp⟩
theorem coh_new (n : Nat) : (DiskS.new n).coh := ⟨rfl, by simp [DiskS.new]⟩
theorem coh_cut {d : DiskS} (h : d.coh) (m : Nat) : (d.cut m).2.coh := by
  unfold DiskS.cut
  split <;> exact h
theorem ok_write {d : DiskS} (h : d.ok) (o : Nat) (b : List UInt8) (hb : o + b.length ≤ d.vi.length) : (d.write o b).2.ok := by
  obtain ⟨off, left, du, vi, pend⟩ := d
  obtain ⟨h1, h2, h3, h4⟩ := h
  simp only at h1 h2 h3 h4 hb
  have := splice_len vi o b hb
  unfold DiskS.write
  cases off
  · exact ⟨by simp only [Bool.false_eq_true, if_false]; omega, by simp only [Bool.false_eq_true, if_false]; omega, by simp only [Bool.false_eq_true, if_false]; omega, by simp only [Bool.false_eq_true, if_false, usedLeft]; omega⟩
  · exact ⟨h1, h2, h3, h4⟩
theorem ok_sync {d : DiskS} (h : d.ok) : d.sync.2.ok := by
  unfold DiskS.sync
  split
  · exact h
  · exact ⟨rfl, h.2.1, h.2.2.1, h.2.2.2⟩
theorem rd_write (d : DiskS) (rp : Nat) (s : List Chunk) (hR : RdR d rp s) (o : Nat) (b : List UInt8) (h : o + b.length ≤ d.vi.length) (hk : d.pend.length ≤ 1000000) :
    Does Tryz.prog 14 #[.pointer (some ⟨rp, 0, none⟩), .int .i64 (o : Int), .string (str b)] [s] (fun r H' => ∃ s', H' = [s'] ∧ r = .int .i64 (d.write o b).1 ∧ RdR (d.write o b).2 rp s') := by
  obtain ⟨hok, hco, v, pv, sv, sp, hr, hp, rfl⟩ := hR
  have hok' := ok_write hok o b h
  have hco' := coh_write hco hok.1 o b h
  obtain ⟨off, left, du, vi, pend⟩ := d
  obtain ⟨hl, h1, h4, hlf⟩ := hok
  have hin := hco.2
  simp only at *
  cases off with
  | true =>
    refine does_mono (does_frame (rwrite_off rp v pv (.int .i64 (left : Int)) o (str b)) [sv ++ sp] (by simp)) ?_
    rintro r _ ⟨H2, ⟨rfl, rfl⟩, rfl⟩
    exact ⟨[_], ⟨_, rfl, rfl, hok', hco', v, pv, sv, sp, hr, hp, rfl⟩, by simp [DiskS.write]⟩
  | false =>
    have fin : ∀ (lf : Nat), lf = left → Does Tryz.prog 14 #[.pointer (some ⟨rp, 0, none⟩), .int .i64 (o : Int), .string (str b)] [[(rp, .cells #[v, pv, .bool false, .int .i64 (lf : Int)] 77 (0, 0))], sv, sp] (fun r H' => ∃ pv' sp', r = .int .i64 0 ∧ RowS 2 112 pv' (pend.length + 1) (pendC pend ++ [.int .i64 (o : Int), .string (str b)]) sp' ∧ H' = [[(rp, .cells #[v, pv', .bool (usedOff false lf), .int .i64 ((usedLeft lf : Nat) : Int)] 77 (0, 0))], sv, sp']) := by
      intro lf e
      rcases (show lf = 0 ∨ lf = 1 ∨ ∃ m, lf = m + 2 ∧ m ≤ 4194304 from by
        rcases Nat.lt_or_ge lf 2 with h9 | h9
        · omega
        · exact .inr (.inr ⟨lf - 2, by omega, by omega⟩)) with rfl | rfl | ⟨m, rfl, hm⟩
      · exact rwrite0 rp hr hp hin (by omega) (by omega) hk o b (by omega)
      · exact rwrite1 rp hr hp hin (by omega) (by omega) hk o b (by omega)
      · exact rwrite2 m hm rp hr hp hin (by omega) (by omega) hk o b (by omega)
    refine does_mono (does_flat (by simp) (fin left rfl)) ?_
    rintro r _ ⟨pv', sp', rfl, hp', rfl⟩
    refine ⟨[_], ⟨_, rfl, rfl, hok', hco', v, pv', sv, sp', hr, ?_, rfl⟩, by simp [DiskS.write]⟩
    simp only [DiskS.write, Bool.false_eq_true, if_false, List.length_append, List.length_cons, List.length_nil]
    have : pendC (pend ++ [(o, b)]) = pendC pend ++ [.int .i64 (o : Int), .string (str b)] := by simp [pendC]
    rw [this]; exact hp'
theorem rd_sync (d : DiskS) (rp : Nat) (s : List Chunk) (hR : RdR d rp s) (hk : d.pend.length ≤ 1000000) :
    Does Tryz.prog 44 #[.pointer (some ⟨rp, 0, none⟩)] [s] (fun r H' => ∃ s', H' = [s'] ∧ r = .int .i64 d.sync.1 ∧ RdR d.sync.2 rp s') := by
  obtain ⟨hok, hco, v, pv, sv, sp, hr, hp, rfl⟩ := hR
  have hok' := ok_sync hok
  have hco' := coh_sync hco
  obtain ⟨off, left, du, vi, pend⟩ := d
  obtain ⟨hl, h1, h4, hlf⟩ := hok
  obtain ⟨hvi, hin⟩ := hco
  simp only at *
  cases off with
  | true =>
    refine does_mono (does_frame (rsync_off rp v pv (.int .i64 (left : Int))) [sv ++ sp] (by simp)) ?_
    rintro r _ ⟨H2, ⟨rfl, rfl⟩, rfl⟩
    exact ⟨[_], ⟨_, rfl, rfl, hok', hco', v, pv, sv, sp, hr, hp, rfl⟩, by simp [DiskS.sync]⟩
  | false =>
    refine does_mono (does_flat (by simp) (rsync_on rp left hr hp hin (by omega) (by omega) hk)) ?_
    rintro r _ ⟨v', s2, rfl, hr2, rfl⟩
    refine ⟨[_], ⟨_, rfl, rfl, hok', hco', v', .slice none 0 0, s2, [], ?_, rowS_nil 2 _, rfl⟩, by simp [DiskS.sync]⟩
    show Row _ v' (vi.map u8v) s2
    rw [hvi]; exact hr2
theorem rd_read (d : DiskS) (rp : Nat) (s : List Chunk) (hR : RdR d rp s) (o m : Nat) (h : o + m ≤ d.vi.length) (ho : o < d.vi.length) (hk : d.pend.length ≤ 1000000) :
    DoesR Tryz.prog 75 #[.pointer (some ⟨rp, 0, none⟩), .int .i64 (o : Int), .int .i64 (m : Int)] [s] (if d.off then .tuple #[.string (str []), .int .i64 221] else .tuple #[.string (str ((d.vi.drop o).take m)), .int .i64 0]) := by
  obtain ⟨⟨hl, h1, h4, hlf⟩, ⟨hvi, hin⟩, v, pv, sv, sp, hr, hp, rfl⟩ := hR
  obtain ⟨off, left, du, vi, pend⟩ := d
  simp only at *
  cases off with
  | true =>
    refine does_mono (does_frame (rread_off rp v pv (.int .i64 (left : Int)) o m) [sv ++ sp] (by simp)) ?_
    rintro r _ ⟨H2, ⟨rfl, rfl⟩, rfl⟩
    exact ⟨_, ⟨rfl, rfl⟩, by simp⟩
  | false =>
    refine does_mono (does_flat (by simp) (rread_on rp left hr hp hin (by omega) (by omega) hk o m (by omega) (by omega))) ?_
    rintro r _ ⟨rfl, rfl⟩
    rw [← hvi]
    exact ⟨_, ⟨rfl, rfl⟩, by simp⟩
theorem rd_new (n : Nat) (h1 : 1 ≤ n) (h2 : n ≤ 4194304) : Does Tryz.prog 32 #[.int .i64 (n : Int)] [] (fun r H' => ∃ rp s, r = .tuple #[.pointer (some ⟨rp, 0, none⟩), .int .i64 0] ∧ RdR (DiskS.new n) rp s ∧ H' = [s]) := by
  refine does_mono (rnew_spec n h1 h2) ?_
  rintro r _ ⟨rp, bs, rfl, rfl⟩
  have e : List.replicate n (Value.int .u8 0) = (List.replicate n (0 : UInt8)).map u8v := by simp [u8v]
  rw [e]
  refine ⟨_, ⟨rp, _, rfl, ⟨⟨rfl, by simp [DiskS.new]; omega, by simp [DiskS.new]; omega, Nat.zero_le _⟩, coh_new n, .slice (some ⟨bs, 0, none⟩) n n, .slice none 0 0, [(bs, .cells ((List.replicate n (0 : UInt8)).map u8v).toArray 5 (0, 0))], [], ?_, rowS_nil 2 _, rfl⟩, rfl⟩, rfl⟩
  show Row _ _ ((List.replicate n (0 : UInt8)).map u8v) _
  have := row_new 5 bs ((List.replicate n (0 : UInt8)).map u8v) n (by simp) (by have : maxLen = 9223372036854775807 := rfl; omega)
  exact this

end Go.Proofs.YtdahnapibeepkaaGreatDoor
