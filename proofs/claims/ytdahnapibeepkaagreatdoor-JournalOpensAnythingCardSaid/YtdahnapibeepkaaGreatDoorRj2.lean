/- The reference of layer 23: Append. -/
import Derived.Test.YtdahnapibeepkaaGreatDoorRj1
import Derived.Test.YtdahnapibeepkaaGreatDoorSn2
namespace Go.Proofs.YtdahnapibeepkaaGreatDoor
open Go Go.RowKit Gw
set_option linter.unusedVariables false
set_option maxRecDepth 100000
attribute [local irreducible] Gw.At Gw.Nx Gw.Ops
theorem rroom_st {d : DiskS} {rp : Nat} {sd : List Chunk} (hR : RdR d rp sd) (kp sz : Nat) (v bv : Value) (hz : sz ≤ 4194304) : DoesR Tryz.prog 19 #[.pointer (some ⟨kp, 0, none⟩)] [[(kp, .cells #[.pointer (some ⟨rp, 0, none⟩), v, .int .i64 (sz : Int), bv] 43 (0, 0))], sd] (.int .i64 ((d.vi.length : Int) - (sz : Int))) := by
  obtain ⟨hok, hco, v0, pv0, sv0, sp0, hr0, hp0, rfl⟩ := hR
  obtain ⟨b0, c0, hv0⟩ := hr0.form
  rw [List.length_map, hok.1] at hv0
  subst hv0
  have h4 : d.vi.length ≤ 4194304 := hok.2.2.1
  refine does_mono (does_frame (rroom_spec kp rp sz v (.int .i64 (d.left : Int)) .nilFunc pv0 (.bool d.off) bv b0 d.vi.length c0 hz h4) [sv0 ++ sp0] (by simp)) ?_
  rintro r _ ⟨H2, ⟨rfl, rfl⟩, rfl⟩
  exact ⟨_, ⟨rfl, rfl⟩, by simp⟩

theorem rappend_main (kp rp sz : Nat) (v lv : Value) (rs ls : List (List UInt8)) (sr sl sd : List Chunk) (h : List UInt8) (d : DiskS)
    (hrow : Row 9 v (rs.map strV) sr) (hl : Row 9 lv (ls.map strV) sl) (hh : h = headL zero32 rs) (hz : sz ≤ d.vi.length) (hn : rs.length ≤ 4194304) (hsh : ∀ r ∈ rs, r.length ≤ 65536) (hshort : ∀ r ∈ ls, r.length ≤ 65536) (hls : ls.length ≤ 1000000) (hR : RdR d rp sd) (hk : d.pend.length ≤ 999990) (q : Int × JrS × DiskS) (hq : q = JrS.append ⟨rs, h, sz, false⟩ d ls) :
    Does Tryz.prog 10 #[.pointer (some ⟨kp, 0, none⟩), lv] [[(kp, .cells #[.pointer (some ⟨rp, 0, none⟩), v, .int .i64 (sz : Int), .bool false] 43 (0, 0))], sr, sl, sd] (fun r H' => ∃ v' sr' s', r = .int .i64 q.1 ∧ Row 9 v' (q.2.1.rs.map strV) sr' ∧ RdR q.2.2 rp s' ∧ H' = [[(kp, .cells #[.pointer (some ⟨rp, 0, none⟩), v', .int .i64 (q.2.1.sz : Int), .bool q.2.1.br] 43 (0, 0))], sr', sl, s']) := by
 have hvi : d.vi.length ≤ 4194304 := hR.1.2.2.1
 have hany : ls.any isLong = false := isLong_none hshort
 unfold JrS.append at hq
 rw [if_neg (by rw [hany]; simp)] at hq
 simp only at hq
 obtain ⟨gv, cv, rfl⟩ := hrow.form
 obtain ⟨gl, cl, rfl⟩ := hl.form
 have h32 : h.length = 32 := by rw [hh]; exact headL_len rs zero32 rfl
 have hml : maxLen = 9223372036854775807 := rfl
 refine spec_enter Tryz.func10 rfl Tryz.ntmps10 rfl ?_
 intro u R
 refine at_slots (env' := [(0, _), (1, _)]) [0, 1] rfl (fun _=>rfl) ?_
 refine at_seq ?_
 refine at_region ?_
 refine op_v (p_assign (fun _=>rfl)) ?_
 refine ops_nil ?_
 refine nx_slots (env' := [(0, _), (1, _)]) [0, 1] rfl (fun _=>rfl) ?_
 refine nx_next ?_
 refine at_seq ?_
 refine at_seq ?_
 refine at_region ?_
 refine op_v (p_move (fun _=>rfl)) ?_
 refine op_v (p_nilChk (fun _=>rfl) rfl) ?_
 first | refine op_v (p_fieldAddr0 (off := 3) Tryz.underlying43 rfl rfl Tryz.sizeOf4 (fun _=>rfl)) ?_ | refine op_v (p_fieldAddr1 (off := 3) Tryz.underlying43 rfl rfl Tryz.sizeOf4 (fun _=>rfl)) ?_
 refine op_r (by repeat (first | exact Has.here _ | apply Has.there)) (p_load Tryz.isAgg4 (fun _=>rfl) (by rfl)) rfl rfl ?_
 refine ops_nil ?_
 refine nx_slots (env' := [(0, _), (1, _), (15, _)]) [0, 1, 15] rfl (fun _=>rfl) ?_
 refine nx_next ?_
 refine at_if_bool (fun _=>rfl) (fun hc1 => ?_) (fun hc1 => ?_)
 ·
  cases hc1
 ·
  refine at_skip ?_
  refine nx_next ?_
  refine at_seq ?_
  refine at_region ?_
  refine op_v (p_assign (fun _=>rfl)) ?_
  refine ops_nil ?_
  refine nx_slots (env' := [(0, _), (1, _), (5, _)]) [0, 1, 5] rfl (fun _=>rfl) ?_
  refine nx_next ?_
  refine at_seq ?_
  refine at_region ?_
  refine op_v (p_move (fun _=>rfl)) ?_
  refine op_v (p_nilChk (fun _=>rfl) rfl) ?_
  first | refine op_v (p_fieldAddr0 (off := 1) Tryz.underlying43 rfl rfl Tryz.sizeOf22 (fun _=>rfl)) ?_ | refine op_v (p_fieldAddr1 (off := 1) Tryz.underlying43 rfl rfl Tryz.sizeOf22 (fun _=>rfl)) ?_
  refine op_r (by repeat (first | exact Has.here _ | apply Has.there)) (p_load Tryz.isAgg22 (fun _=>rfl) (by rfl)) rfl rfl ?_
  refine op_e (w_callR (vs := [_]) (fun _=>rfl) Tryz.call42 (fun _=>rfl) rfl (rhead_spec hrow (by omega) (fun r hr => by have := hsh r hr; omega)) (by repeat (first | exact Pull.nil _ | (apply Pull.cons; (focus (repeat (first | exact One.here _ _ | apply One.there))))))) (fun _=>rfl) rfl rfl ?_
  rintro _ _ ⟨rfl, rfl⟩
  rw [← hh]
  refine op_v (p_assign (fun _=>rfl)) ?_
  refine ops_nil ?_
  refine nx_slots (env' := [(0, _), (1, _), (5, _), (6, _)]) [0, 1, 5, 6] rfl (fun _=>rfl) ?_
  refine nx_next ?_
  refine at_seq ?_
  refine at_seq ?_
  refine at_region ?_
  refine op_v (p_assign (fun _=>rfl)) ?_
  refine ops_nil ?_
  refine nx_slots (env' := [(0, _), (1, _), (5, _), (6, _), (7, _)]) [0, 1, 5, 6, 7] rfl (fun _=>rfl) ?_
  refine nx_next ?_
  refine at_block ?_
  refine at_slots (env' := [(5, _), (6, _), (7, _), (0, _), (1, _)]) [5, 6, 7, 0, 1] rfl (fun _=>rfl) ?_
  refine at_loopB (e0 := [(5, _), (6, _), (7, _)]) (H0 := _) (n := _) (fun m e H => ∃ (i : Nat), m = ls.length - i ∧ (i ≤ ls.length) ∧ e = [(5, .string (str (outL h (ls.take i)))), (6, .string (str (headL h (ls.take i)))), (7, .int .i64 (i : Int))] ∧ H = []) (by exact ⟨0, rfl, Nat.zero_le _, rfl, rfl⟩) (by repeat (first | exact Pull.nil _ | (apply Pull.cons; (focus (repeat (first | exact One.here _ _ | apply One.there)))))) ?_
  rintro _ _ _ ⟨i, rfl, hi, rfl, rfl⟩
  refine at_seq ?_
  refine at_seq ?_
  refine at_region ?_
  refine op_v (p_move (fun _=>rfl)) ?_
  refine op_v (p_move (fun _=>rfl)) ?_
  refine op_v (p_len_slice Tryz.underlying22 (fun _=>rfl)) ?_
  first | refine op_v (p_lss_nat (fun _=>rfl) (fun _=>rfl)) ?_ | refine op_v (p_lss (fun _=>rfl) (fun _=>rfl)) ?_
  refine ops_nil ?_
  refine nx_slots (env' := [(0, _), (1, _), (5, _), (6, _), (7, _), (24, _)]) [0, 1, 5, 6, 7, 24] rfl (fun _=>rfl) ?_
  refine nx_next ?_
  first | refine at_if (fun _=>rfl) (fun hlt => ?_) (fun hlt => ?_) | refine at_if_bool (fun _=>rfl) (fun hlt => ?_) (fun hlt => ?_)
  ·
   rw [List.length_map] at hlt
   refine at_skip ?_
   refine nx_next ?_
   refine at_seq ?_
   refine at_block ?_
   refine at_seq ?_
   refine at_seq ?_
   obtain ⟨x, hx⟩ : ∃ x, ls[i]? = some x := ⟨_, List.getElem?_eq_getElem hlt⟩
   have hxl := hshort x (List.mem_of_getElem? hx)
   obtain ⟨gk, ck, curk, zk, hvk, rfl, hink⟩ := row_in hl (by rw [List.length_map]; omega)
   injection hvk with e1 e2 e3
   subst e1 e3
   have hcell := cellAt hink hx
   have htk : ls.take (i + 1) = ls.take i ++ [x] := by rw [List.take_add_one, hx]; rfl
   have hol := outL_len (ls.take i) h (fun r hr => hshort r (List.mem_of_mem_take hr))
   have htl : (ls.take i).length ≤ i := List.length_take_le ..
   have hrl := recS_len (headL h (ls.take i)) x hxl
   have hel := encS_len x hxl
   have hxs := str_size x
   refine at_region ?_
   refine op_v (p_move (fun _=>rfl)) ?_
   refine op_v (p_move (fun _=>rfl)) ?_
   first | (refine op_v (p_indexAddr_nat0 Tryz.underlying22 Tryz.sizeOf9 (fun _=>rfl) (fun _=>rfl) ?_) ?_; (focus (first | omega | (rw [List.length_map]; omega)))) | (refine op_v (p_indexAddr_nat1 Tryz.underlying22 Tryz.sizeOf9 (fun _=>rfl) (fun _=>rfl) ?_) ?_; (focus (first | omega | (rw [List.length_map]; omega))))
   refine op_r (by repeat (first | exact Has.here _ | apply Has.there)) (p_load Tryz.isAgg9 (fun _=>rfl) (by first | exact hcell | (rw [Nat.mul_one]; exact hcell) | simpa using hcell)) rfl rfl ?_
   refine op_v (p_len_str Tryz.underlying9 (fun _=>rfl)) ?_
   first | refine op_v (p_gtr_nat (n := 65536) (fun _=>rfl) (fun _=>rfl)) ?_ | refine op_v (p_gtr (fun _=>rfl) (fun _=>rfl)) ?_
   refine ops_nil ?_
   refine nx_slots (env' := [(0, _), (1, _), (5, _), (6, _), (7, _), (32, _)]) [0, 1, 5, 6, 7, 32] rfl (fun _=>rfl) ?_
   refine nx_next ?_
   first | refine at_if (fun _=>rfl) (fun hc2 => ?_) (fun hc2 => ?_) | refine at_if_bool (fun _=>rfl) (fun hc2 => ?_) (fun hc2 => ?_)
   ·
    exfalso; omega
   ·
    refine at_skip ?_
    refine nx_next ?_
    refine at_seq ?_
    refine at_region ?_
    refine op_v (p_move (fun _=>rfl)) ?_
    refine op_v (p_move (fun _=>rfl)) ?_
    refine op_v (p_move (fun _=>rfl)) ?_
    first | (refine op_v (p_indexAddr_nat0 Tryz.underlying22 Tryz.sizeOf9 (fun _=>rfl) (fun _=>rfl) ?_) ?_; (focus (first | omega | (rw [List.length_map]; omega)))) | (refine op_v (p_indexAddr_nat1 Tryz.underlying22 Tryz.sizeOf9 (fun _=>rfl) (fun _=>rfl) ?_) ?_; (focus (first | omega | (rw [List.length_map]; omega))))
    refine op_r (by repeat (first | exact Has.here _ | apply Has.there)) (p_load Tryz.isAgg9 (fun _=>rfl) (by first | exact hcell | (rw [Nat.mul_one]; exact hcell) | simpa using hcell)) rfl rfl ?_
    refine op_e (w_callR (vs := [_, _]) (fun _=>rfl) Tryz.call43 (fun _=>rfl) rfl (rstored_spec (headL h (ls.take i)) x (headL_len _ _ h32) hxl) (by repeat (first | exact Pull.nil _ | (apply Pull.cons; (focus (repeat (first | exact One.here _ _ | apply One.there))))))) (fun _=>rfl) rfl rfl ?_
    rintro _ _ ⟨rfl, rfl⟩
    refine op_v (p_move (fun _=>rfl)) ?_
    refine op_v (p_extract (fun _=>rfl) rfl) ?_
    refine op_v (p_extract (fun _=>rfl) rfl) ?_
    refine op_v (p_assign (fun _=>rfl)) ?_
    refine op_v (p_assign (fun _=>rfl)) ?_
    refine ops_nil ?_
    refine nx_slots (env' := [(0, _), (1, _), (5, _), (7, _), (8, _), (9, _)]) [0, 1, 5, 7, 8, 9] rfl (fun _=>rfl) ?_
    refine nx_next ?_
    refine at_seq ?_
    refine at_region ?_
    refine op_v (p_move (fun _=>rfl)) ?_
    refine op_v (p_move (fun _=>rfl)) ?_
    (refine op_v (p_add_str (fun _=>rfl) (fun _=>rfl) ?_) ?_; (focus (rw [str_size, str_size]; omega)))
    refine op_v (p_assign (fun _=>rfl)) ?_
    refine ops_nil ?_
    refine nx_slots (env' := [(0, _), (1, _), (5, _), (7, _), (9, _)]) [0, 1, 5, 7, 9] rfl (fun _=>rfl) ?_
    refine nx_next ?_
    refine at_region ?_
    refine op_v (p_move (fun _=>rfl)) ?_
    refine op_v (p_assign (fun _=>rfl)) ?_
    refine ops_nil ?_
    refine nx_slots (env' := [(0, _), (1, _), (5, _), (6, _), (7, _)]) [0, 1, 5, 6, 7] rfl (fun _=>rfl) ?_
    refine nx_block_normal ?_
    refine nx_next ?_
    refine at_region ?_
    refine op_v (p_move (fun _=>rfl)) ?_
    first | (refine op_v (p_add_nat (n := 1) (fun _=>rfl) (fun _=>rfl) ?_) ?_; (focus (omega))) | (refine op_v (p_add (fun _=>rfl) (fun _=>rfl) (IntWalk.i64_in _ ?_)) ?_; (focus (omega)))
    refine op_v (p_assign (fun _=>rfl)) ?_
    refine ops_nil ?_
    refine nx_slots (env' := [(0, _), (1, _), (5, _), (6, _), (7, _)]) [0, 1, 5, 6, 7] rfl (fun _=>rfl) ?_
    refine nx_slots (env' := [(5, _), (6, _), (7, _), (0, _), (1, _)]) [5, 6, 7, 0, 1] rfl (fun _=>rfl) ?_
    refine nx_againB (e' := [(5, _), (6, _), (7, _)]) (m := _) (H' := _) (by exact ⟨i + 1, rfl, by omega, by rw [htk, outL_snoc, headL_snoc, ← str_app], rfl⟩) ?hm_2 ?hp_2
    case hm_2 => omega
    case hp_2 => repeat (first | exact Sub.refl _ | exact Sub.nil _ | (apply Sub.cons; (focus (repeat (first | exact One.here _ _ | apply One.there)))) | refine Sub.drop _ ?_)
  ·
   rw [List.length_map] at hlt
   rw [List.take_of_length_le (show ls.length ≤ i by omega)]
   have hol := outL_len ls h hshort
   obtain ⟨out, ho⟩ : ∃ out, out = outL h ls := ⟨_, rfl⟩
   have htwo := outL_two h ls hshort
   rw [← ho] at hq hol htwo
   rw [← ho]
   refine at_exit ?_
   refine nx_thru (by intro h; cases h) ?_
   refine nx_thru (by intro h; cases h) ?_
   refine nx_block_exit ?_
   refine nx_next ?_
   refine at_seq ?_
   refine at_seq ?_
   refine at_region ?_
   refine op_v (p_move (fun _=>rfl)) ?_
   refine op_w (p_len_strL Tryz.underlying9 (fun _=>rfl)) rfl rfl ?_
   refine op_v (p_move (fun _=>rfl)) ?_
   refine op_e (w_callR (vs := [_]) (fun _=>rfl) Tryz.call19 (fun _=>rfl) rfl (rroom_st hR kp sz _ _ (by omega)) (by repeat (first | exact Pull.nil _ | (apply Pull.cons; (focus (repeat (first | exact One.here _ _ | apply One.there))))))) (fun _=>rfl) rfl rfl ?_
   rintro _ _ ⟨rfl, rfl⟩
   first | refine op_v (p_gtr_nat (fun _=>rfl) (fun _=>rfl)) ?_ | refine op_v (p_gtr (fun _=>rfl) (fun _=>rfl)) ?_
   refine ops_nil ?_
   refine nx_slots (env' := [(0, _), (1, _), (5, _), (50, _)]) [0, 1, 5, 50] rfl (fun _=>rfl) ?_
   refine nx_next ?_
   first | refine at_if (fun _=>rfl) (fun hroom => ?_) (fun hroom => ?_) | refine at_if_bool (fun _=>rfl) (fun hroom => ?_) (fun hroom => ?_)
   ·
    refine at_seq ?_
    refine at_region ?_
    refine op_v (p_assign (fun _=>rfl)) ?_
    refine ops_nil ?_
    refine nx_slots (env' := [(4, _)]) [4] rfl (fun _=>rfl) ?_
    refine nx_next ?_
    refine at_ret ?_
    refine nx_thru (by intro h; cases h) ?_
    refine nx_end1 (H' := _) rfl Tryz.results10 (fun _=>rfl) (by
          rw [if_pos (by omega)] at hq
          subst hq
          exact ⟨_, sr, sd, rfl, hrow, hR, rfl⟩) ?hp_3
    case hp_3 => repeat (first | exact Sub.refl _ | exact Sub.nil _ | (apply Sub.cons; (focus (repeat (first | exact One.here _ _ | apply One.there)))) | refine Sub.drop _ ?_)
   ·
    refine at_skip ?_
    refine nx_next ?_
    refine at_seq ?_
    refine at_seq ?_
    refine at_region ?_
    refine op_v (p_move (fun _=>rfl)) ?_
    refine op_v (p_eql_str (fun _=>rfl) (fun _=>rfl)) ?_
    refine ops_nil ?_
    refine nx_slots (env' := [(0, _), (1, _), (5, _), (52, _)]) [0, 1, 5, 52] rfl (fun _=>rfl) ?_
    refine nx_next ?_
    first | refine at_if (fun _=>rfl) (fun hemp => ?_) (fun hemp => ?_) | refine at_if_bool (fun _=>rfl) (fun hemp => ?_) (fun hemp => ?_)
    ·
     refine at_seq ?_
     refine at_region ?_
     refine op_v (p_assign (fun _=>rfl)) ?_
     refine ops_nil ?_
     refine nx_slots (env' := [(4, _)]) [4] rfl (fun _=>rfl) ?_
     refine nx_next ?_
     refine at_ret ?_
     refine nx_thru (by intro h; cases h) ?_
     refine nx_end1 (H' := _) rfl Tryz.results10 (fun _=>rfl) (by
           rw [if_neg (by omega), if_pos (by have h4 := congrArg (fun t : ByteArray => t.data.toList) hemp; simpa [str] using h4)] at hq
           subst hq
           exact ⟨_, sr, sd, rfl, hrow, hR, rfl⟩) ?hp_4
     case hp_4 => repeat (first | exact Sub.refl _ | exact Sub.nil _ | (apply Sub.cons; (focus (repeat (first | exact One.here _ _ | apply One.there)))) | refine Sub.drop _ ?_)
    ·
     refine at_skip ?_
     refine nx_next ?_
     refine at_seq ?_
     have hne : out ≠ [] := fun h5 => hemp (by rw [h5]; rfl)
     have h2o := htwo hne
     rw [if_neg (by omega), if_neg hne] at hq
     obtain ⟨qa, hqa⟩ : ∃ qa, qa = d.app sz out := ⟨_, rfl⟩
     rw [← hqa] at hq
     unfold DiskS.app at hqa
     simp only at hqa
     obtain ⟨p1, hp1⟩ : ∃ p, p = d.write (sz + 1) out.tail := ⟨_, rfl⟩
     have hl1 := write_len d (sz + 1) out.tail (by rw [List.length_tail]; omega)
     have hd1 := write_pend d (sz + 1) out.tail
     rw [← hp1] at hqa hl1 hd1
     obtain ⟨p2, hp2⟩ : ∃ p, p = p1.2.sync := ⟨_, rfl⟩
     have hl2 := sync_len p1.2
     have hd2 := sync_pend p1.2
     rw [← hp2] at hqa hl2 hd2
     obtain ⟨p3, hp3⟩ : ∃ p, p = p2.2.write sz (out.take 1) := ⟨_, rfl⟩
     have hl3 := write_len p2.2 sz (out.take 1) (by rw [List.length_take]; omega)
     have hd3 := write_pend p2.2 sz (out.take 1)
     rw [← hp3] at hqa hl3 hd3
     obtain ⟨p4, hp4⟩ : ∃ p, p = p3.2.sync := ⟨_, rfl⟩
     rw [← hp4] at hqa
     refine at_draw (n := 13) (0 :: 1 :: 3 :: 7 :: 0 :: 16 :: 48 :: 112 :: 240 :: 0 :: 512 :: 2047 :: 4095 :: []) 2048 (by kernel_rfl) (by kernel_rfl) rfl ?_
     refine lin_w (D' := 1) 0 rfl rfl rfl (p_move (fun _=>rfl)) ?_
     refine lin_w (D' := 3) 1 rfl rfl rfl (p_nilChk (fun _=>rfl) rfl) ?_
     first | refine lin_w (D' := 7) 2 rfl rfl rfl (p_fieldAddr0 (off := 0) Tryz.underlying43 rfl rfl Tryz.sizeOf29 (fun _=>rfl)) ?_ | refine lin_w (D' := 7) 2 rfl rfl rfl (p_fieldAddr1 (off := 0) Tryz.underlying43 rfl rfl Tryz.sizeOf29 (fun _=>rfl)) ?_
     refine lin_r (D' := 15) 3 rfl rfl rfl (by repeat (first | exact Has.here _ | apply Has.there)) (p_load Tryz.isAgg29 (fun _=>rfl) (by rfl)) ?_
     refine lin_w (D' := 31) 4 rfl rfl rfl (p_move (fun _=>rfl)) ?_
     refine lin_w (D' := 63) 5 rfl rfl rfl (p_nilChk (fun _=>rfl) rfl) ?_
     first | refine lin_w (D' := 127) 6 rfl rfl rfl (p_fieldAddr0 (off := 2) Tryz.underlying43 rfl rfl Tryz.sizeOf3 (fun _=>rfl)) ?_ | refine lin_w (D' := 127) 6 rfl rfl rfl (p_fieldAddr1 (off := 2) Tryz.underlying43 rfl rfl Tryz.sizeOf3 (fun _=>rfl)) ?_
     refine lin_r (D' := 255) 7 rfl rfl rfl (by repeat (first | exact Has.here _ | apply Has.there)) (p_load Tryz.isAgg3 (fun _=>rfl) (by rfl)) ?_
     first | (refine lin_w (D' := 511) 8 rfl rfl rfl (p_add_nat (n := 1) (fun _=>rfl) (fun _=>rfl) ?_) ?_; (focus (omega))) | (refine lin_w (D' := 511) 8 rfl rfl rfl (p_add (fun _=>rfl) (fun _=>rfl) (IntWalk.i64_in _ ?_)) ?_; (focus (omega)))
     refine lin_w (D' := 1023) 9 rfl rfl rfl (p_move (fun _=>rfl)) ?_
     refine lin_w (D' := 2047) 10 rfl rfl rfl (p_slice_tail Tryz.underlying9 (fun _=>rfl) (fun _=>rfl) (by omega)) ?_
     refine lin_eff (l := [11]) (by kernel_rfl) (by kernel_rfl) ?_
     refine each_cons (m := 2047) (D' := 4095) (is := [7, 3]) (bs := [false, false]) (T' := []) rfl (fun _=>rfl) rfl rfl rfl (by kernel_rfl) rfl (w_call (vs := [_, _, _]) (fun _=>rfl) Tryz.call14 (fun _=>rfl) rfl (rd_write d rp sd hR (sz + 1) out.tail (by rw [List.length_tail]; omega) (by omega)) (by repeat (first | exact Pull.nil _ | (apply Pull.cons; (focus (repeat (first | exact One.here _ _ | apply One.there))))))) ?hk_5 no_pan ?hl_5
     case hk_5 =>
      rintro _ _ ⟨_, ⟨s1, rfl, rfl, hR1⟩, rfl⟩
      refine ⟨keep_nil, ?_⟩
      rw [← hp1] at hR1 ⊢
      refine lin_w (D' := 8191) 12 rfl rfl rfl (p_assign (fun _=>rfl)) ?_
      refine lin_nil ?_
      refine nx_slots (env' := [(0, _), (1, _), (5, _), (10, _)]) [0, 1, 5, 10] rfl (fun _=>rfl) ?_
      refine nx_next ?_
      refine at_seq ?_
      refine at_seq ?_
      refine at_region ?_
      refine op_v (p_move (fun _=>rfl)) ?_
      first | refine op_v (p_eql_nat (n := 0) (fun _=>rfl) (fun _=>rfl)) ?_ | refine op_v (p_eql (fun _=>rfl) (fun _=>rfl)) ?_
      refine ops_nil ?_
      refine nx_slots (env' := [(0, _), (1, _), (5, _), (10, _), (66, _)]) [0, 1, 5, 10, 66] rfl (fun _=>rfl) ?_
      refine nx_next ?_
      first | refine at_if (fun _=>rfl) (fun hq1 => ?_) (fun hq1 => ?_) | refine at_if_bool (fun _=>rfl) (fun hq1 => ?_) (fun hq1 => ?_)
      ·
       rw [if_neg (fun h => h hq1)] at hqa
       refine at_region ?_
       refine op_v (p_move (fun _=>rfl)) ?_
       refine op_v (p_nilChk (fun _=>rfl) rfl) ?_
       first | refine op_v (p_fieldAddr0 (off := 0) Tryz.underlying43 rfl rfl Tryz.sizeOf29 (fun _=>rfl)) ?_ | refine op_v (p_fieldAddr1 (off := 0) Tryz.underlying43 rfl rfl Tryz.sizeOf29 (fun _=>rfl)) ?_
       refine op_r (by repeat (first | exact Has.here _ | apply Has.there)) (p_load Tryz.isAgg29 (fun _=>rfl) (by rfl)) rfl rfl ?_
       refine ops_eff (fun _=>rfl) (fits_of rfl) rfl (w_call (vs := [_]) (fun _=>rfl) Tryz.call44 (fun _=>rfl) rfl (rd_sync p1.2 rp s1 hR1 (by omega)) (by repeat (first | exact Pull.nil _ | (apply Pull.cons; (focus (repeat (first | exact One.here _ _ | apply One.there))))))) ?_ no_pan
       rintro _ _ ⟨_, ⟨s2, rfl, rfl, hR2⟩, rfl⟩
       rw [← hp2] at hR2 ⊢
       refine op_v (p_assign (fun _=>rfl)) ?_
       refine ops_nil ?_
       refine nx_slots (env' := [(0, _), (1, _), (5, _), (10, _)]) [0, 1, 5, 10] rfl (fun _=>rfl) ?_
       refine nx_next ?_
       refine at_seq ?_
       refine at_seq ?_
       refine at_region ?_
       refine op_v (p_move (fun _=>rfl)) ?_
       first | refine op_v (p_eql_nat (n := 0) (fun _=>rfl) (fun _=>rfl)) ?_ | refine op_v (p_eql (fun _=>rfl) (fun _=>rfl)) ?_
       refine ops_nil ?_
       refine nx_slots (env' := [(0, _), (1, _), (5, _), (10, _), (73, _)]) [0, 1, 5, 10, 73] rfl (fun _=>rfl) ?_
       refine nx_next ?_
       first | refine at_if (fun _=>rfl) (fun hq2 => ?_) (fun hq2 => ?_) | refine at_if_bool (fun _=>rfl) (fun hq2 => ?_) (fun hq2 => ?_)
       ·
        rw [if_neg (fun h => h hq2)] at hqa
        refine at_draw (n := 12) (0 :: 1 :: 3 :: 7 :: 0 :: 16 :: 48 :: 112 :: 0 :: 256 :: 1023 :: 2047 :: []) 1024 (by kernel_rfl) (by kernel_rfl) rfl ?_
        refine lin_w (D' := 1) 0 rfl rfl rfl (p_move (fun _=>rfl)) ?_
        refine lin_w (D' := 3) 1 rfl rfl rfl (p_nilChk (fun _=>rfl) rfl) ?_
        first | refine lin_w (D' := 7) 2 rfl rfl rfl (p_fieldAddr0 (off := 0) Tryz.underlying43 rfl rfl Tryz.sizeOf29 (fun _=>rfl)) ?_ | refine lin_w (D' := 7) 2 rfl rfl rfl (p_fieldAddr1 (off := 0) Tryz.underlying43 rfl rfl Tryz.sizeOf29 (fun _=>rfl)) ?_
        refine lin_r (D' := 15) 3 rfl rfl rfl (by repeat (first | exact Has.here _ | apply Has.there)) (p_load Tryz.isAgg29 (fun _=>rfl) (by rfl)) ?_
        refine lin_w (D' := 31) 4 rfl rfl rfl (p_move (fun _=>rfl)) ?_
        refine lin_w (D' := 63) 5 rfl rfl rfl (p_nilChk (fun _=>rfl) rfl) ?_
        first | refine lin_w (D' := 127) 6 rfl rfl rfl (p_fieldAddr0 (off := 2) Tryz.underlying43 rfl rfl Tryz.sizeOf3 (fun _=>rfl)) ?_ | refine lin_w (D' := 127) 6 rfl rfl rfl (p_fieldAddr1 (off := 2) Tryz.underlying43 rfl rfl Tryz.sizeOf3 (fun _=>rfl)) ?_
        refine lin_r (D' := 255) 7 rfl rfl rfl (by repeat (first | exact Has.here _ | apply Has.there)) (p_load Tryz.isAgg3 (fun _=>rfl) (by rfl)) ?_
        refine lin_w (D' := 511) 8 rfl rfl rfl (p_move (fun _=>rfl)) ?_
        refine lin_w (D' := 1023) 9 rfl rfl rfl (p_slice_head Tryz.underlying9 (fun _=>rfl) (fun _=>rfl) (by omega)) ?_
        refine lin_eff (l := [10]) (by kernel_rfl) (by kernel_rfl) ?_
        refine each_cons (m := 1023) (D' := 2047) (is := [7, 3]) (bs := [false, false]) (T' := []) rfl (fun _=>rfl) rfl rfl rfl (by kernel_rfl) rfl (w_call (vs := [_, _, _]) (fun _=>rfl) Tryz.call14 (fun _=>rfl) rfl (rd_write p2.2 rp s2 hR2 sz (out.take 1) (by rw [List.length_take]; omega) (by omega)) (by repeat (first | exact Pull.nil _ | (apply Pull.cons; (focus (repeat (first | exact One.here _ _ | apply One.there))))))) ?hk_6 no_pan ?hl_6
        case hk_6 =>
         rintro _ _ ⟨_, ⟨s3, rfl, rfl, hR3⟩, rfl⟩
         refine ⟨keep_nil, ?_⟩
         rw [← hp3] at hR3 ⊢
         refine lin_w (D' := 4095) 11 rfl rfl rfl (p_assign (fun _=>rfl)) ?_
         refine lin_nil ?_
         refine nx_slots (env' := [(0, _), (1, _), (5, _), (10, _)]) [0, 1, 5, 10] rfl (fun _=>rfl) ?_
         refine nx_next ?_
         refine at_seq ?_
         refine at_seq ?_
         refine at_region ?_
         refine op_v (p_move (fun _=>rfl)) ?_
         first | refine op_v (p_eql_nat (n := 0) (fun _=>rfl) (fun _=>rfl)) ?_ | refine op_v (p_eql (fun _=>rfl) (fun _=>rfl)) ?_
         refine ops_nil ?_
         refine nx_slots (env' := [(0, _), (1, _), (5, _), (10, _), (86, _)]) [0, 1, 5, 10, 86] rfl (fun _=>rfl) ?_
         refine nx_next ?_
         first | refine at_if (fun _=>rfl) (fun hq3 => ?_) (fun hq3 => ?_) | refine at_if_bool (fun _=>rfl) (fun hq3 => ?_) (fun hq3 => ?_)
         ·
          rw [if_neg (fun h => h hq3)] at hqa
          subst hqa
          refine at_region ?_
          refine op_v (p_move (fun _=>rfl)) ?_
          refine op_v (p_nilChk (fun _=>rfl) rfl) ?_
          first | refine op_v (p_fieldAddr0 (off := 0) Tryz.underlying43 rfl rfl Tryz.sizeOf29 (fun _=>rfl)) ?_ | refine op_v (p_fieldAddr1 (off := 0) Tryz.underlying43 rfl rfl Tryz.sizeOf29 (fun _=>rfl)) ?_
          refine op_r (by repeat (first | exact Has.here _ | apply Has.there)) (p_load Tryz.isAgg29 (fun _=>rfl) (by rfl)) rfl rfl ?_
          refine ops_eff (fun _=>rfl) (fits_of rfl) rfl (w_call (vs := [_]) (fun _=>rfl) Tryz.call44 (fun _=>rfl) rfl (rd_sync p3.2 rp s3 hR3 (by omega)) (by repeat (first | exact Pull.nil _ | (apply Pull.cons; (focus (repeat (first | exact One.here _ _ | apply One.there))))))) ?_ no_pan
          rintro _ _ ⟨_, ⟨s4, rfl, rfl, hR4⟩, rfl⟩
          rw [← hp4] at hR4 ⊢
          refine op_v (p_assign (fun _=>rfl)) ?_
          refine ops_nil ?_
          refine nx_slots (env' := [(0, _), (1, _), (5, _), (10, _)]) [0, 1, 5, 10] rfl (fun _=>rfl) ?_
          refine nx_next ?_
          refine at_seq ?_
          refine at_seq ?_
          refine at_region ?_
          refine op_v (p_move (fun _=>rfl)) ?_
          first | refine op_v (p_neq_nat (n := 0) (fun _=>rfl) (fun _=>rfl)) ?_ | refine op_v (p_neq (fun _=>rfl) (fun _=>rfl)) ?_
          refine ops_nil ?_
          refine nx_slots (env' := [(0, _), (1, _), (5, _), (10, _), (93, _)]) [0, 1, 5, 10, 93] rfl (fun _=>rfl) ?_
          refine nx_next ?_
          first | refine at_if (fun _=>rfl) (fun hx4 => ?_) (fun hx4 => ?_) | refine at_if_bool (fun _=>rfl) (fun hx4 => ?_) (fun hx4 => ?_)
          ·
           refine at_seq ?_
           rw [if_pos hx4] at hq
           subst hq
           refine at_region ?_
           refine op_v (p_move (fun _=>rfl)) ?_
           refine op_v (p_nilChk (fun _=>rfl) rfl) ?_
           first | refine op_v (p_fieldAddr0 (off := 3) Tryz.underlying43 rfl rfl Tryz.sizeOf4 (fun _=>rfl)) ?_ | refine op_v (p_fieldAddr1 (off := 3) Tryz.underlying43 rfl rfl Tryz.sizeOf4 (fun _=>rfl)) ?_
           refine op_e (w_store Tryz.sizeOf4 (fun _=>rfl) (fun _=>rfl) rfl (by repeat (first | exact Upd.here _ | apply Upd.there)) (by rfl) (by first | decide | exact Nat.le_refl _ | (simp; done) | (simp; omega)) (by exact free_zero _)) (fun _=>rfl) rfl rfl ?_
           rintro _ _ ⟨rfl, rfl⟩
           refine ops_nil ?_
           refine nx_slots (env' := [(10, _)]) [10] rfl (fun _=>rfl) ?_
           refine nx_next ?_
           refine at_seq ?_
           refine at_region ?_
           refine op_v (p_move (fun _=>rfl)) ?_
           refine op_v (p_assign (fun _=>rfl)) ?_
           refine ops_nil ?_
           refine nx_slots (env' := [(4, _)]) [4] rfl (fun _=>rfl) ?_
           refine nx_next ?_
           refine at_ret ?_
           refine nx_thru (by intro h; cases h) ?_
           refine nx_end1 (H' := _) rfl Tryz.results10 (fun _=>rfl) (by exact ⟨_, sr, _, rfl, hrow, by first | exact hR4 | exact hR3 | exact hR2 | exact hR1, rfl⟩) ?hp_7
           case hp_7 => repeat (first | exact Sub.refl _ | exact Sub.nil _ | (apply Sub.cons; (focus (repeat (first | exact One.here _ _ | apply One.there)))) | refine Sub.drop _ ?_)
          ·
           refine at_skip ?_
           refine nx_next ?_
           refine at_seq ?_
           refine at_region ?_
           refine op_v (p_assign (fun _=>rfl)) ?_
           refine ops_nil ?_
           refine nx_slots (env' := [(0, _), (1, _), (5, _), (11, _)]) [0, 1, 5, 11] rfl (fun _=>rfl) ?_
           refine nx_next ?_
           refine at_seq ?_
           refine at_nil ?_
           rw [if_neg hx4] at hq
           refine at_region ?_
           refine op_v (p_move (fun _=>rfl)) ?_
           refine op_v (p_move (fun _=>rfl)) ?_
           refine op_v (p_nilChk (fun _=>rfl) rfl) ?_
           first | refine op_v (p_fieldAddr0 (off := 1) Tryz.underlying43 rfl rfl Tryz.sizeOf22 (fun _=>rfl)) ?_ | refine op_v (p_fieldAddr1 (off := 1) Tryz.underlying43 rfl rfl Tryz.sizeOf22 (fun _=>rfl)) ?_
           refine op_r (by repeat (first | exact Has.here _ | apply Has.there)) (p_load Tryz.isAgg22 (fun _=>rfl) (by rfl)) rfl rfl ?_
           refine op_e (w_append_row (by_ := 16) Tryz.underlying22 (rfl : Tryz.prog.info? 9 = some Tryz.t9) rfl rfl rfl rfl (fun _=>rfl) (row_nil _) (fun _=>rfl) (hrow) (by repeat (first | exact One.here _ _ | apply One.there)) (by repeat (first | exact One.here _ _ | apply One.there)) (by simp [Value.oneCell', strV]) (by (simp only [List.length_map, List.length_nil]; omega)) (by (simp only [List.length_map, List.length_nil]; omega))) (fun _=>rfl) rfl rfl ?_
           rintro _ _ ⟨sa, hra, rfl⟩
           rw [List.nil_append] at hra
           obtain ⟨ga, ca, rfl⟩ := hra.form
           refine op_v (p_assign (fun _=>rfl)) ?_
           refine ops_nil ?_
           refine nx_slots (env' := [(0, _), (1, _), (5, _), (11, _)]) [0, 1, 5, 11] rfl (fun _=>rfl) ?_
           refine nx_next ?_
           refine at_seq ?_
           refine at_region ?_
           refine op_v (p_move (fun _=>rfl)) ?_
           refine op_v (p_move (fun _=>rfl)) ?_
           refine op_v (p_move (fun _=>rfl)) ?_
           refine op_e (w_append_row (by_ := 16) Tryz.underlying22 (rfl : Tryz.prog.info? 9 = some Tryz.t9) rfl rfl rfl rfl (fun _=>rfl) (hra) (fun _=>rfl) (hl) (by repeat (first | exact One.here _ _ | apply One.there)) (by repeat (first | exact One.here _ _ | apply One.there)) (by simp [Value.oneCell', strV]) (by (simp only [List.length_map]; omega)) (by (simp only [List.length_map]; omega))) (fun _=>rfl) rfl rfl ?_
           rintro _ _ ⟨sc, hrc, rfl⟩
           rw [← List.map_append] at hrc
           obtain ⟨gc, cc, rfl⟩ := hrc.form
           refine op_v (p_nilChk (fun _=>rfl) rfl) ?_
           first | refine op_v (p_fieldAddr0 (off := 1) Tryz.underlying43 rfl rfl Tryz.sizeOf22 (fun _=>rfl)) ?_ | refine op_v (p_fieldAddr1 (off := 1) Tryz.underlying43 rfl rfl Tryz.sizeOf22 (fun _=>rfl)) ?_
           refine op_e (w_store Tryz.sizeOf22 (fun _=>rfl) (fun _=>rfl) rfl (by repeat (first | exact Upd.here _ | apply Upd.there)) (by rfl) (by first | decide | exact Nat.le_refl _ | (simp; done) | (simp; omega)) (by exact free_zero _)) (fun _=>rfl) rfl rfl ?_
           rintro _ _ ⟨rfl, rfl⟩
           refine ops_nil ?_
           refine nx_slots (env' := [(0, _), (5, _)]) [0, 5] rfl (fun _=>rfl) ?_
           refine nx_next ?_
           refine at_seq ?_
           refine at_region ?_
           refine op_v (p_move (fun _=>rfl)) ?_
           refine op_v (p_move (fun _=>rfl)) ?_
           refine op_v (p_nilChk (fun _=>rfl) rfl) ?_
           first | refine op_v (p_fieldAddr0 (off := 2) Tryz.underlying43 rfl rfl Tryz.sizeOf3 (fun _=>rfl)) ?_ | refine op_v (p_fieldAddr1 (off := 2) Tryz.underlying43 rfl rfl Tryz.sizeOf3 (fun _=>rfl)) ?_
           refine op_r (by repeat (first | exact Has.here _ | apply Has.there)) (p_load Tryz.isAgg3 (fun _=>rfl) (by rfl)) rfl rfl ?_
           refine op_v (p_move (fun _=>rfl)) ?_
           refine op_w (p_len_strL Tryz.underlying9 (fun _=>rfl)) rfl rfl ?_
           first | (refine op_v (p_add_nat (fun _=>rfl) (fun _=>rfl) ?_) ?_; (focus (omega))) | (refine op_v (p_add (fun _=>rfl) (fun _=>rfl) (IntWalk.i64_in _ ?_)) ?_; (focus (omega)))
           refine op_v (p_nilChk (fun _=>rfl) rfl) ?_
           first | refine op_v (p_fieldAddr0 (off := 2) Tryz.underlying43 rfl rfl Tryz.sizeOf3 (fun _=>rfl)) ?_ | refine op_v (p_fieldAddr1 (off := 2) Tryz.underlying43 rfl rfl Tryz.sizeOf3 (fun _=>rfl)) ?_
           refine op_e (w_store Tryz.sizeOf3 (fun _=>rfl) (fun _=>rfl) rfl (by repeat (first | exact Upd.here _ | apply Upd.there)) (by rfl) (by first | decide | exact Nat.le_refl _ | (simp; done) | (simp; omega)) (by exact free_zero _)) (fun _=>rfl) rfl rfl ?_
           rintro _ _ ⟨rfl, rfl⟩
           refine ops_nil ?_
           refine nx_slots (env' := []) [] rfl (fun _=>rfl) ?_
           refine nx_next ?_
           refine at_seq ?_
           refine at_region ?_
           refine op_v (p_assign (fun _=>rfl)) ?_
           refine ops_nil ?_
           refine nx_slots (env' := [(4, _)]) [4] rfl (fun _=>rfl) ?_
           refine nx_next ?_
           refine at_ret ?_
           refine nx_end1 (H' := _) rfl Tryz.results10 (fun _=>rfl) (by
                 subst hq
                 exact ⟨_, sc, s4, rfl, hrc, hR4, rfl⟩) ?hp_8
           case hp_8 => repeat (first | exact Sub.refl _ | exact Sub.nil _ | (apply Sub.cons; (focus (repeat (first | exact One.here _ _ | apply One.there)))) | refine Sub.drop _ ?_)
         ·
          rw [if_pos hq3] at hqa
          subst hqa
          refine at_skip ?_
          refine nx_next ?_
          refine at_seq ?_
          refine at_seq ?_
          refine at_region ?_
          refine op_v (p_move (fun _=>rfl)) ?_
          first | refine op_v (p_neq_nat (n := 0) (fun _=>rfl) (fun _=>rfl)) ?_ | refine op_v (p_neq (fun _=>rfl) (fun _=>rfl)) ?_
          refine ops_nil ?_
          refine nx_slots (env' := [(0, _), (1, _), (5, _), (10, _), (93, _)]) [0, 1, 5, 10, 93] rfl (fun _=>rfl) ?_
          refine nx_next ?_
          first | refine at_if (fun _=>rfl) (fun hx4 => ?_) (fun hx4 => ?_) | refine at_if_bool (fun _=>rfl) (fun hx4 => ?_) (fun hx4 => ?_)
          ·
           refine at_seq ?_
           rw [if_pos hx4] at hq
           subst hq
           refine at_region ?_
           refine op_v (p_move (fun _=>rfl)) ?_
           refine op_v (p_nilChk (fun _=>rfl) rfl) ?_
           first | refine op_v (p_fieldAddr0 (off := 3) Tryz.underlying43 rfl rfl Tryz.sizeOf4 (fun _=>rfl)) ?_ | refine op_v (p_fieldAddr1 (off := 3) Tryz.underlying43 rfl rfl Tryz.sizeOf4 (fun _=>rfl)) ?_
           refine op_e (w_store Tryz.sizeOf4 (fun _=>rfl) (fun _=>rfl) rfl (by repeat (first | exact Upd.here _ | apply Upd.there)) (by rfl) (by first | decide | exact Nat.le_refl _ | (simp; done) | (simp; omega)) (by exact free_zero _)) (fun _=>rfl) rfl rfl ?_
           rintro _ _ ⟨rfl, rfl⟩
           refine ops_nil ?_
           refine nx_slots (env' := [(10, _)]) [10] rfl (fun _=>rfl) ?_
           refine nx_next ?_
           refine at_seq ?_
           refine at_region ?_
           refine op_v (p_move (fun _=>rfl)) ?_
           refine op_v (p_assign (fun _=>rfl)) ?_
           refine ops_nil ?_
           refine nx_slots (env' := [(4, _)]) [4] rfl (fun _=>rfl) ?_
           refine nx_next ?_
           refine at_ret ?_
           refine nx_thru (by intro h; cases h) ?_
           refine nx_end1 (H' := _) rfl Tryz.results10 (fun _=>rfl) (by exact ⟨_, sr, _, rfl, hrow, by first | exact hR4 | exact hR3 | exact hR2 | exact hR1, rfl⟩) ?hp_9
           case hp_9 => repeat (first | exact Sub.refl _ | exact Sub.nil _ | (apply Sub.cons; (focus (repeat (first | exact One.here _ _ | apply One.there)))) | refine Sub.drop _ ?_)
          ·
           exact absurd hq3 hx4
        case hl_6 =>
         exact each_nil
       ·
        rw [if_pos hq2] at hqa
        subst hqa
        refine at_skip ?_
        refine nx_next ?_
        refine at_seq ?_
        refine at_seq ?_
        refine at_region ?_
        refine op_v (p_move (fun _=>rfl)) ?_
        first | refine op_v (p_eql_nat (n := 0) (fun _=>rfl) (fun _=>rfl)) ?_ | refine op_v (p_eql (fun _=>rfl) (fun _=>rfl)) ?_
        refine ops_nil ?_
        refine nx_slots (env' := [(0, _), (1, _), (5, _), (10, _), (86, _)]) [0, 1, 5, 10, 86] rfl (fun _=>rfl) ?_
        refine nx_next ?_
        first | refine at_if (fun _=>rfl) (fun hx3 => ?_) (fun hx3 => ?_) | refine at_if_bool (fun _=>rfl) (fun hx3 => ?_) (fun hx3 => ?_)
        ·
         exact absurd hx3 hq2
        ·
         refine at_skip ?_
         refine nx_next ?_
         refine at_seq ?_
         refine at_seq ?_
         refine at_region ?_
         refine op_v (p_move (fun _=>rfl)) ?_
         first | refine op_v (p_neq_nat (n := 0) (fun _=>rfl) (fun _=>rfl)) ?_ | refine op_v (p_neq (fun _=>rfl) (fun _=>rfl)) ?_
         refine ops_nil ?_
         refine nx_slots (env' := [(0, _), (1, _), (5, _), (10, _), (93, _)]) [0, 1, 5, 10, 93] rfl (fun _=>rfl) ?_
         refine nx_next ?_
         first | refine at_if (fun _=>rfl) (fun hx4 => ?_) (fun hx4 => ?_) | refine at_if_bool (fun _=>rfl) (fun hx4 => ?_) (fun hx4 => ?_)
         ·
          refine at_seq ?_
          rw [if_pos hx4] at hq
          subst hq
          refine at_region ?_
          refine op_v (p_move (fun _=>rfl)) ?_
          refine op_v (p_nilChk (fun _=>rfl) rfl) ?_
          first | refine op_v (p_fieldAddr0 (off := 3) Tryz.underlying43 rfl rfl Tryz.sizeOf4 (fun _=>rfl)) ?_ | refine op_v (p_fieldAddr1 (off := 3) Tryz.underlying43 rfl rfl Tryz.sizeOf4 (fun _=>rfl)) ?_
          refine op_e (w_store Tryz.sizeOf4 (fun _=>rfl) (fun _=>rfl) rfl (by repeat (first | exact Upd.here _ | apply Upd.there)) (by rfl) (by first | decide | exact Nat.le_refl _ | (simp; done) | (simp; omega)) (by exact free_zero _)) (fun _=>rfl) rfl rfl ?_
          rintro _ _ ⟨rfl, rfl⟩
          refine ops_nil ?_
          refine nx_slots (env' := [(10, _)]) [10] rfl (fun _=>rfl) ?_
          refine nx_next ?_
          refine at_seq ?_
          refine at_region ?_
          refine op_v (p_move (fun _=>rfl)) ?_
          refine op_v (p_assign (fun _=>rfl)) ?_
          refine ops_nil ?_
          refine nx_slots (env' := [(4, _)]) [4] rfl (fun _=>rfl) ?_
          refine nx_next ?_
          refine at_ret ?_
          refine nx_thru (by intro h; cases h) ?_
          refine nx_end1 (H' := _) rfl Tryz.results10 (fun _=>rfl) (by exact ⟨_, sr, _, rfl, hrow, by first | exact hR4 | exact hR3 | exact hR2 | exact hR1, rfl⟩) ?hp_10
          case hp_10 => repeat (first | exact Sub.refl _ | exact Sub.nil _ | (apply Sub.cons; (focus (repeat (first | exact One.here _ _ | apply One.there)))) | refine Sub.drop _ ?_)
         ·
          exact absurd hq2 hx4
      ·
       rw [if_pos hq1] at hqa
       subst hqa
       refine at_skip ?_
       refine nx_next ?_
       refine at_seq ?_
       refine at_seq ?_
       refine at_region ?_
       refine op_v (p_move (fun _=>rfl)) ?_
       first | refine op_v (p_eql_nat (n := 0) (fun _=>rfl) (fun _=>rfl)) ?_ | refine op_v (p_eql (fun _=>rfl) (fun _=>rfl)) ?_
       refine ops_nil ?_
       refine nx_slots (env' := [(0, _), (1, _), (5, _), (10, _), (73, _)]) [0, 1, 5, 10, 73] rfl (fun _=>rfl) ?_
       refine nx_next ?_
       first | refine at_if (fun _=>rfl) (fun hx2 => ?_) (fun hx2 => ?_) | refine at_if_bool (fun _=>rfl) (fun hx2 => ?_) (fun hx2 => ?_)
       ·
        exact absurd hx2 hq1
       ·
        refine at_skip ?_
        refine nx_next ?_
        refine at_seq ?_
        refine at_seq ?_
        refine at_region ?_
        refine op_v (p_move (fun _=>rfl)) ?_
        first | refine op_v (p_eql_nat (n := 0) (fun _=>rfl) (fun _=>rfl)) ?_ | refine op_v (p_eql (fun _=>rfl) (fun _=>rfl)) ?_
        refine ops_nil ?_
        refine nx_slots (env' := [(0, _), (1, _), (5, _), (10, _), (86, _)]) [0, 1, 5, 10, 86] rfl (fun _=>rfl) ?_
        refine nx_next ?_
        first | refine at_if (fun _=>rfl) (fun hx3 => ?_) (fun hx3 => ?_) | refine at_if_bool (fun _=>rfl) (fun hx3 => ?_) (fun hx3 => ?_)
        ·
         exact absurd hx3 hq1
        ·
         refine at_skip ?_
         refine nx_next ?_
         refine at_seq ?_
         refine at_seq ?_
         refine at_region ?_
         refine op_v (p_move (fun _=>rfl)) ?_
         first | refine op_v (p_neq_nat (n := 0) (fun _=>rfl) (fun _=>rfl)) ?_ | refine op_v (p_neq (fun _=>rfl) (fun _=>rfl)) ?_
         refine ops_nil ?_
         refine nx_slots (env' := [(0, _), (1, _), (5, _), (10, _), (93, _)]) [0, 1, 5, 10, 93] rfl (fun _=>rfl) ?_
         refine nx_next ?_
         first | refine at_if (fun _=>rfl) (fun hx4 => ?_) (fun hx4 => ?_) | refine at_if_bool (fun _=>rfl) (fun hx4 => ?_) (fun hx4 => ?_)
         ·
          refine at_seq ?_
          rw [if_pos hx4] at hq
          subst hq
          refine at_region ?_
          refine op_v (p_move (fun _=>rfl)) ?_
          refine op_v (p_nilChk (fun _=>rfl) rfl) ?_
          first | refine op_v (p_fieldAddr0 (off := 3) Tryz.underlying43 rfl rfl Tryz.sizeOf4 (fun _=>rfl)) ?_ | refine op_v (p_fieldAddr1 (off := 3) Tryz.underlying43 rfl rfl Tryz.sizeOf4 (fun _=>rfl)) ?_
          refine op_e (w_store Tryz.sizeOf4 (fun _=>rfl) (fun _=>rfl) rfl (by repeat (first | exact Upd.here _ | apply Upd.there)) (by rfl) (by first | decide | exact Nat.le_refl _ | (simp; done) | (simp; omega)) (by exact free_zero _)) (fun _=>rfl) rfl rfl ?_
          rintro _ _ ⟨rfl, rfl⟩
          refine ops_nil ?_
          refine nx_slots (env' := [(10, _)]) [10] rfl (fun _=>rfl) ?_
          refine nx_next ?_
          refine at_seq ?_
          refine at_region ?_
          refine op_v (p_move (fun _=>rfl)) ?_
          refine op_v (p_assign (fun _=>rfl)) ?_
          refine ops_nil ?_
          refine nx_slots (env' := [(4, _)]) [4] rfl (fun _=>rfl) ?_
          refine nx_next ?_
          refine at_ret ?_
          refine nx_thru (by intro h; cases h) ?_
          refine nx_end1 (H' := _) rfl Tryz.results10 (fun _=>rfl) (by exact ⟨_, sr, _, rfl, hrow, by first | exact hR4 | exact hR3 | exact hR2 | exact hR1, rfl⟩) ?hp_11
          case hp_11 => repeat (first | exact Sub.refl _ | exact Sub.nil _ | (apply Sub.cons; (focus (repeat (first | exact One.here _ _ | apply One.there)))) | refine Sub.drop _ ?_)
         ·
          exact absurd hq1 hx4
     case hl_5 =>
      exact each_nil

theorem kr_append (j : JrS) (d : DiskS) (kp rp : Nat) (sk sl sd : List Chunk) (lv : Value) (ls : List (List UInt8)) (hK : KrR j kp rp sk) (hR : RdR d rp sd) (hl : Row 9 lv (ls.map strV) sl) (hbr : j.br = false) (hz : j.sz ≤ d.vi.length) (hk : d.pend.length ≤ 999990) (hls : ls.length ≤ 1000000) (hshort : ∀ r ∈ ls, r.length ≤ 65536) (hb : (j.append d ls).2.1.rs.length ≤ 4194304) :
    Does Tryz.prog 10 #[.pointer (some ⟨kp, 0, none⟩), lv] [sk, sl, sd] (fun r H' => ∃ sk' sd', r = .int .i64 (j.append d ls).1 ∧ KrR (j.append d ls).2.1 kp rp sk' ∧ RdR (j.append d ls).2.2 rp sd' ∧ H' = [sk', sl, sd']) := by
  obtain ⟨rs, h, sz, br⟩ := j
  simp only at hbr hz
  subst hbr
  obtain ⟨hh, hn, hsh, v, sr, hrow, rfl⟩ := hK
  simp only at hh hn hsh hrow
  obtain ⟨q, hq⟩ : ∃ q, q = JrS.append ⟨rs, h, sz, false⟩ d ls := ⟨_, rfl⟩
  have hkeep : q.2.1.h = headL zero32 q.2.1.rs ∧ ∀ r ∈ q.2.1.rs, r.length ≤ 65536 := by
    rw [hq]; unfold JrS.append
    split
    · exact ⟨hh, hsh⟩
    split
    · exact ⟨hh, hsh⟩
    split
    · exact ⟨hh, hsh⟩
    split
    · exact ⟨hh, hsh⟩
    · refine ⟨by show headL h ls = headL zero32 (rs ++ ls); rw [headL_append, hh], fun r hr => ?_⟩
      rcases List.mem_append.1 hr with h9 | h9
      · exact hsh r h9
      · exact hshort r h9
  refine does_mono (does_flat (by simp) (rappend_main kp rp sz v lv rs ls sr sl sd h d hrow hl hh hz hn hsh hshort hls hR hk q hq)) ?_
  rintro r _ ⟨v', sr', s', rfl, h1, h2, rfl⟩
  rw [← hq] at hb ⊢
  exact ⟨_, ⟨_, s', rfl, ⟨hkeep.1, hb, hkeep.2, v', sr', h1, rfl⟩, h2, rfl⟩, by simp⟩

theorem rappend_broken (kp rp : Nat) (v zv lv : Value) : DoesR Tryz.prog 10 #[.pointer (some ⟨kp, 0, none⟩), lv] [[(kp, .cells #[.pointer (some ⟨rp, 0, none⟩), v, zv, .bool true] 43 (0, 0))]] (.int .i64 230) := by
 refine spec_enter Tryz.func10 rfl Tryz.ntmps10 rfl ?_
 intro u R
 refine at_slots (env' := [(0, _), (1, _)]) [0, 1] rfl (fun _=>rfl) ?_
 refine at_seq ?_
 refine at_region ?_
 refine op_v (p_assign (fun _=>rfl)) ?_
 refine ops_nil ?_
 refine nx_slots (env' := [(0, _), (1, _)]) [0, 1] rfl (fun _=>rfl) ?_
 refine nx_next ?_
 refine at_seq ?_
 refine at_seq ?_
 refine at_region ?_
 refine op_v (p_move (fun _=>rfl)) ?_
 refine op_v (p_nilChk (fun _=>rfl) rfl) ?_
 first | refine op_v (p_fieldAddr0 (off := 3) Tryz.underlying43 rfl rfl Tryz.sizeOf4 (fun _=>rfl)) ?_ | refine op_v (p_fieldAddr1 (off := 3) Tryz.underlying43 rfl rfl Tryz.sizeOf4 (fun _=>rfl)) ?_
 refine op_r (by repeat (first | exact Has.here _ | apply Has.there)) (p_load Tryz.isAgg4 (fun _=>rfl) (by rfl)) rfl rfl ?_
 refine ops_nil ?_
 refine nx_slots (env' := [(0, _), (1, _), (15, _)]) [0, 1, 15] rfl (fun _=>rfl) ?_
 refine nx_next ?_
 refine at_if_bool (fun _=>rfl) (fun hc1 => ?_) (fun hc1 => ?_)
 ·
  refine at_seq ?_
  refine at_region ?_
  refine op_v (p_assign (fun _=>rfl)) ?_
  refine ops_nil ?_
  refine nx_slots (env' := [(4, _)]) [4] rfl (fun _=>rfl) ?_
  refine nx_next ?_
  refine at_ret ?_
  refine nx_thru (by intro h; cases h) ?_
  refine nx_end1 (H' := _) rfl Tryz.results10 (fun _=>rfl) (by exact ⟨rfl, rfl⟩) ?hp_1
  case hp_1 => repeat (first | exact Sub.refl _ | exact Sub.nil _ | (apply Sub.cons; (focus (repeat (first | exact One.here _ _ | apply One.there)))) | refine Sub.drop _ ?_)
 ·
  cases hc1

end Go.Proofs.YtdahnapibeepkaaGreatDoor
