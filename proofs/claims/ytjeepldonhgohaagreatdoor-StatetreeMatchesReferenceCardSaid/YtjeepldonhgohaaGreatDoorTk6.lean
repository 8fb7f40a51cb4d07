/- state, as a function of the integers. -/
/- The law StatetreeMatchesReference. -/
/- StatetreeMatchesReference as its card wants it. -/
import Derived.Test.YtjeepldonhgohaaGreatDoorEz
import Derived.Test.YtjeepldonhgohaaGreatDoorLd1
import Derived.Test.YtjeepldonhgohaaGreatDoorLd2
import Derived.Test.YtjeepldonhgohaaGreatDoorTr14
import Derived.Test.YtjeepldonhgohaaGreatDoorTkA

namespace Go.Proofs.YtjeepldonhgohaaGreatDoor
open Go.Proofs.Tryz
open Go Go.RowKit Gw
set_option linter.unusedVariables false
set_option linter.unusedSimpArgs false
set_option maxRecDepth 100000
attribute [local irreducible] Gw.At Gw.Nx Gw.Ops
theorem state_F {M : List Chunk} {v : Value} {xs : List (List Int)} (hX : SixIn M v xs) : Does Tryz.prog 8 #[v] [M] (fun r H' => ∃ sp mb es ck lm rp w sv sl l, LogOk l ∧ l.map RecM.cs = logF (xs.take (min xs.length 20)) ∧ r = .tuple #[.pointer (some ⟨sp, 0, none⟩), .pointer (some ⟨rp, 0, none⟩)] ∧ MapM K2 es ck lm ∧ MapR lm (rowsOf l) ∧ RowS 5 74 w (rowsOf l).length (rowCells (rowsOf l)) sv ∧
      H' = [[(sp, .cells #[.map (some mb), .int .i64 (l.length : Int)] 154 (0, 0))], [(mb, .map es ck)], [(rp, .cells #[w, .int .i64 (l.length : Int)] 121 (0, 0))], sv, sl, M]) := by
 have hml : maxLen = 9223372036854775807 := rfl
 obtain ⟨py, capy, rfl, hyl, hgy⟩ := id hX
 have hX2 := six_take hX (min xs.length 20) (Nat.min_le_left _ _)
 have hyk : (xs.take (min xs.length 20)).length ≤ 20 := by rw [List.length_take]; omega
 refine spec_enter func8 rfl ntmps8 rfl ?_
 intro u R
 refine Zb [0] ?_
 refine Zq <| Zg <| Za Y <| Za Y <| Z0 <| Zx <| Zq <| Zg <| Zm Y <| Zm Y <| Zv (p_len_slice underlying22 Y) ?_
 first | refine op_v (p_min_nat (n := 20) Y Y) ?_ | refine op_v (p_min_int Y Y) ?_
 (refine op_v (p_slice_slice_to underlying22 sizeOf92 Y Y ?_) ?_; (focus (first | omega | (simp; omega))))
 refine Zc [_] Y call32 Y rfl (r4_logF hX2 (by omega)) ?_
 rintro _ _ ⟨_, ⟨l, sl, hlog, hll, hlF, hRI, rfl⟩, rfl⟩
 obtain ⟨pl, capl, rfl, hlc, hgl⟩ := id hRI
 refine Za Y <| Z0 <| Zx <| Zq <| Zg <| Zm Y <| Zm Y <| Zv (p_len_slice underlying69 Y) <| Zc [_, _] Y call30 Y rfl (st_at pl capl l sl hRI hlog (by omega) l.length (Nat.le_refl _)) ?_
 rintro _ _ ⟨_, ⟨sp, mb, es, ck, lm, rfl, hm, hR, rfl⟩, rfl⟩
 refine Zm Y <| Zd Y rfl <| Zd Y rfl <| Za Y <| Za Y <| Z0 <| Zn [4, 5] ?_
 refine Zx <| Zq <| Zg <| Zm Y <| Zm Y <| Zv (p_len_slice underlying69 Y) <| Zc [_, _] Y call33 Y rfl (r4_at pl capl l sl hRI hlog (by omega) l.length (Nat.le_refl _)) ?_
 rintro _ _ ⟨_, ⟨rp, w, sv, rfl, hrw, rfl⟩, rfl⟩
 refine Zm Y <| Zd Y rfl <| Zd Y rfl <| Za Y <| Za Y <| Z0 <| Zx <| Zq <| Zg <| Zm Y <| Zm Y <| Za Y <| Za Y <| Z0 <| Zn [2, 3] ?_
 refine Zx <| at_ret ?_
 refine nx_end2 rfl results8 Y Y (by rw [List.take_length] at hR hrw; exact ⟨sp, mb, es, ck, lm, rp, w, sv, sl, l, hlog, hlF, rfl, hm, hR, hrw, rfl⟩)

end Go.Proofs.YtjeepldonhgohaaGreatDoor


namespace Go.Proofs.YtjeepldonhgohaaGreatDoor
open Go.Proofs.Tryz
open Go Go.RowKit Gw
set_option linter.unusedVariables false
set_option linter.unusedSimpArgs false
set_option maxRecDepth 100000
attribute [local irreducible] Gw.At Gw.Nx Gw.Ops
theorem rowsT_le (x : RP) : (rowsT x).length ≤ x.rows.length := by
  unfold rowsT
  split
  · exact List.length_filter_le _ _
  · exact Nat.zero_le _
theorem two_four (a b c d e f g h : Int) (i : Nat) (hi : i < 2) : ∃ w x y z : Int, (#[Value.int .i64 a, .int .i64 b, .int .i64 c, .int .i64 d, .int .i64 e, .int .i64 f, .int .i64 g, .int .i64 h] : Array Value).extract (0 + i * 4) (0 + i * 4 + 4) = #[.int .i64 w, .int .i64 x, .int .i64 y, .int .i64 z] := by
  rcases Nat.lt_or_ge i 1 with h1 | h1
  · obtain rfl : i = 0 := by omega
    exact ⟨a, b, c, d, rfl⟩
  · obtain rfl : i = 1 := by omega
    exact ⟨e, f, g, h, rfl⟩

set_option maxHeartbeats 1000000 in
theorem matches_law {M : List Chunk} {v : Value} {xs : List (List Int)} (hX : SixIn M v xs) (a b c d : Int) (ha1 : -9223372036854775808 ≤ a) (ha2 : a ≤ 9223372036854775807) (hb1 : -9223372036854775808 ≤ b) (hb2 : b ≤ 9223372036854775807) (hc1 : -9223372036854775808 ≤ c) (hc2 : c ≤ 9223372036854775807) (hd1 : -9223372036854775808 ≤ d) (hd2 : d ≤ 9223372036854775807) (a9 b9 c9 d9 : Int) (ha19 : -9223372036854775808 ≤ a9) (ha29 : a9 ≤ 9223372036854775807) (hb19 : -9223372036854775808 ≤ b9) (hb29 : b9 ≤ 9223372036854775807) (hc19 : -9223372036854775808 ≤ c9) (hc29 : c9 ≤ 9223372036854775807) (hd19 : -9223372036854775808 ≤ d9) (hd29 : d9 ≤ 9223372036854775807) (Tg : TypeId) (zg : Nat × Nat) : DoesR Tryz.prog 3 #[v, .agg #[.int .i64 a, .int .i64 b, .int .i64 c, .int .i64 d], .agg #[.int .i64 a9, .int .i64 b9, .int .i64 c9, .int .i64 d9]] [[(0, .cells (kTab.map u32v).toArray Tg zg)], M] (.bool true) := by
 have hml : maxLen = 9223372036854775807 := rfl
 refine spec_enter func3 rfl ntmps3 rfl ?_
 intro u R
 refine Zb [0, 1, 2] ?_
 refine Zq <| Zg <| Ze (w_box Y (cs := #[_, _, _, _]) rfl) ?_
 rintro _ _ ⟨b1, rfl, rfl⟩
 refine Ze (w_box Y (cs := #[_, _, _, _]) rfl) ?_
 rintro _ _ ⟨b2, rfl, rfl⟩
 refine Za Y <| Z0 <| Zx <| Zq <| Zg <| Zr [] Y call7 Y rfl (sane10 Tg zg) ?_
 rintro _ _ ⟨rfl, rfl⟩
 refine Za Y <| Z0 <| Zx <| Zq <| Zg <| Zm Y <| Zc [_] Y call8 Y rfl (state_F hX) ?_
 rintro _ _ ⟨_, ⟨sp, mm, es, ck, lm, rp, w, sv, sl, l, hlog, hlF, rfl, hm, hR, hrw, rfl⟩, rfl⟩
 obtain ⟨hs, hn⟩ := hlog.all
 have hok := hlog.rowsOk l.length (Nat.le_refl _)
 rw [List.take_length] at hok
 have hrF := rowsC_of l
 obtain ⟨rs, hrs⟩ : ∃ rs, rs = rowsOf l := ⟨_, rfl⟩
 rw [← hrs] at hR hs hn hok hrw hrF
 have hst : StIs (.pointer (some ⟨sp, 0, none⟩)) (l.length : Int) rs [(sp, .cells #[.map (some mm), .int .i64 (l.length : Int)] 154 (0, 0)), (mm, .map es ck)] := ⟨sp, mm, es, ck, lm, rfl, hm, hR, hs, hn, rfl⟩
 refine Zm Y <| Zd Y rfl <| Zd Y rfl <| Za Y <| Za Y <| Z0 <| Zx <| Zq <| Zq <| at_join (s1 := [(sp, _)]) (s2 := [(mm, _)]) (by repeat (first | exact One.here _ _ | apply One.there)) (by repeat (first | exact One.here _ _ | apply One.there)) ?_
 refine Zg <| Zm Y ?_
 first | refine op_v (p_eql_nil_nil underlying25 Y Y) ?_ | refine op_v (p_eql_ptr_nil underlying25 Y Y) ?_
 refine Zm Y ?_
 refine ops_split_bool (t := 31) Y rfl (fun k1 => ?_) (fun k1 => ?_)
 ·
  cases k1
 ·
  refine Zf Y Y <| Zr [_] Y call9 Y rfl (root_st _ _ rs _ hst hs hn hok Tg zg) ?_
  rintro _ _ ⟨rfl, rfl⟩
  refine Zf Y Y <| Zr [_] Y call10 Y rfl (r10_root rp _ w rs sv hrw hn hs hok) ?_
  rintro _ _ ⟨rfl, rfl⟩
  refine op_wg Y (p_neq_str Y Y) rfl rfl ?_
  refine Zv (p_pick_f Y Y) <| Z0 <| Zn [4, 5, 7, 8, 9, 37] ?_
  refine Zx ?_
  first | refine at_if Y (fun k2 => ?_) (fun k2 => ?_) | refine at_if_bool Y (fun k2 => ?_) (fun k2 => ?_)
  ·
   exact absurd rfl k2
  ·
   refine at_skip <| Zx <| Zq <| Zq <| at_draw (n := 6) (0 :: 0 :: 2 :: 7 :: 15 :: 0 :: []) 12 (by kernel_rfl) (by kernel_rfl) rfl ?_
   refine lin_r (D' := 1) 0 rfl rfl rfl (by repeat (first | exact Has.here _ | apply Has.there)) (p_load_agg (cs := #[_, _, _, _]) isAgg23 sizeOf23 Y (by first | omega | decide | (simp; done)) (by rfl)) ?_
   refine lin_r (D' := 3) 1 rfl rfl rfl (by repeat (first | exact Has.here _ | apply Has.there)) (p_load_agg (cs := #[_, _, _, _]) isAgg23 sizeOf23 Y (by first | omega | decide | (simp; done)) (by rfl)) ?_
   refine Zi 35 5 rfl (p_move Y) <| Zz (l := [2]) ?_
   refine Zy 2 39 [1, 0] [false, true] [(0, (_, _))] rfl Y rfl rfl rfl rfl (Zu [_] Y call11 Y rfl (asked_spec a b c d ha1 ha2 hb1 hb2 hc1 hc2 hd1 hd2)) ?hk_1 (fun _ _ h => h.elim) ?hl_1
   case hk_1 =>
    rintro _ _ ⟨rfl, rfl⟩
    refine ⟨Zk (keep_nil), ?_⟩
    refine Zz (l := [3]) ?_
    refine Zy 7 47 [0] [false] [] rfl Y rfl rfl rfl rfl (w_buildSlice (vs := [_, _]) (cs := [_, _, _, _, _, _, _, _]) underlying32 sizeOf23 zeroValue23 Y rfl rfl rfl rfl rfl) ?hk_2 (fun _ _ h => h.elim) ?hl_2
    case hk_2 =>
     rintro _ _ ⟨gq, rfl, rfl⟩
     refine ⟨keep_nil, ?_⟩
     refine Zi 63 4 rfl (p_len_slice underlying32 Y) <| lin_nil ?_
     refine Zx <| at_block <| Zb [43, 5, 7, 8, 9, 41, 42] ?_
     refine at_loopB (e0 := [(43, _)]) (H0 := _) (n := _) (fun m e H => ∃ (i : Nat), m = 2 - i ∧ (i ≤ 2) ∧ e = [(43, .int .i64 (i : Int))] ∧ H = []) (by exact ⟨0, rfl, Nat.zero_le _, rfl, rfl⟩) (by repeat (first | exact Pull.nil _ | (apply Pull.cons; (focus (repeat (first | exact One.here _ _ | apply One.there)))))) ?_
     rintro _ _ _ ⟨i, rfl, hi, rfl, rfl⟩
     refine Zq <| Zg ?_
     first | refine op_v (p_lss_nat Y Y) ?_ | refine op_v (p_lss Y Y) ?_
     refine Z0 <| Zx <| Zq ?_
     first | refine at_if Y (fun hlt => ?_) (fun hlt => ?_) | refine at_if_bool Y (fun hlt => ?_) (fun hlt => ?_)
     ·
      obtain ⟨y0, y1, y2, y3, hy4⟩ := two_four a b c d (pickN a 4 : Int) (pickN b 4 : Int) ((pickN c 40 : Int) - 20) ((pickN c 40 : Int) - 20 + (pickN d 20 : Int)) i (by omega)
      refine at_skip <| Zx <| Zq <| at_block <| Zq <| Zg ?_
      (refine op_v (p_indexAddr_nat underlying32 sizeOf23 Y Y ?_) ?_; (focus (first | omega | decide | (simp; done))))
      refine Zo (by repeat (first | exact Has.here _ | apply Has.there)) (p_load_agg (cs := #[.int .i64 y0, .int .i64 y1, .int .i64 y2, .int .i64 y3]) isAgg23 sizeOf23 Y (by first | (simp; omega) | omega) hy4) ?_
      refine Ze (w_alloc zeroValue23 (cs := #[_, _, _, _]) rfl) ?_
      rintro _ _ ⟨by_, rfl, rfl⟩
      refine Ze (w_store_agg sizeOf23 Y Y (by first | (simp [Value.oneCell']; done) | (simp [Value.oneCell', Value.cells]; done)) (by repeat (first | exact Upd.here _ | apply Upd.there)) (by exact (rfl : _ = (#[.int .i64 y0, .int .i64 y1, .int .i64 y2, .int .i64 y3] : Array Value))) (by first | rfl | (simp; done)) (by first | omega | decide | (simp; done)) (by exact free_zero _)) ?_
      rintro _ _ ⟨rfl, rfl⟩
      refine Z0 <| Zx <| Zq <| Zg <| Zm Y ?_
      first | (refine op_v (p_indexAddr_arr0 (j := 0) underlying23 sizeOf3 Y Y ?_) ?_; (focus (first | omega | decide | (simp; done)))) | (refine op_v (p_indexAddr_arr (j := 0) underlying23 sizeOf3 Y Y ?_) ?_; (focus (first | omega | decide | (simp; done))))
      refine Zl isAgg3 Y ?_
      first | (refine op_v (p_indexAddr_arr0 (j := 1) underlying23 sizeOf3 Y Y ?_) ?_; (focus (first | omega | decide | (simp; done)))) | (refine op_v (p_indexAddr_arr (j := 1) underlying23 sizeOf3 Y Y ?_) ?_; (focus (first | omega | decide | (simp; done))))
      refine Zl isAgg3 Y ?_
      first | (refine op_v (p_indexAddr_arr0 (j := 2) underlying23 sizeOf3 Y Y ?_) ?_; (focus (first | omega | decide | (simp; done)))) | (refine op_v (p_indexAddr_arr (j := 2) underlying23 sizeOf3 Y Y ?_) ?_; (focus (first | omega | decide | (simp; done))))
      refine Zl isAgg3 Y ?_
      first | (refine op_v (p_indexAddr_arr0 (j := 3) underlying23 sizeOf3 Y Y ?_) ?_; (focus (first | omega | decide | (simp; done)))) | (refine op_v (p_indexAddr_arr (j := 3) underlying23 sizeOf3 Y Y ?_) ?_; (focus (first | omega | decide | (simp; done))))
      refine Zl isAgg3 Y ?_
      refine Zc [_, _, _, _, _] Y call12 Y rfl (prove_any _ _ rs _ hst hs hn hok y0 y1 y2 y3 Tg zg) ?_
      rintro _ _ ⟨_, ⟨va, ma, rfl, hA, rfl⟩, rfl⟩
      obtain ⟨PX, hPX⟩ : ∃ P, P = proveA rs y0 y1 y2 y3 := ⟨_, rfl⟩
      rw [← hPX] at hA
      obtain ⟨ra, pa, ta, rfl, hRa, hPa, hTa⟩ := id hA
      obtain ⟨qra, cra, rfl, hlra, hgra⟩ := id hRa
      obtain ⟨qpa, cpa, rfl, hlpa, hgpa⟩ := id hPa
      obtain ⟨qta, cta, rfl, hlta, hgta⟩ := id hTa
      refine Zm Y <| Zd Y rfl <| Zd Y rfl <| Ze (w_alloc zeroValue37 (cs := #[_, _, _, _, _, _, _, _, _]) rfl) ?_
      rintro _ _ ⟨ba, rfl, rfl⟩
      refine Ze (w_store_agg sizeOf37 Y Y (by first | (simp [Value.oneCell']; done) | (simp [Value.oneCell', Value.cells]; done)) (by repeat (first | exact Upd.here _ | apply Upd.there)) (by exact (rfl : _ = (#[_, _, _, _, _, _, _, _, _] : Array Value))) (by first | rfl | (simp; done)) (by first | omega | decide | (simp; done)) (by exact free_zero _)) ?_
      rintro _ _ ⟨rfl, rfl⟩
      refine Za Y <| Z0 <| Zn [5, 7, 8, 9, 11, 12, 13, 41, 42, 43] ?_
      refine Zx <| Zq <| Zg <| Zm Y ?_
      first | (refine op_v (p_indexAddr_arr0 (j := 0) underlying23 sizeOf3 Y Y ?_) ?_; (focus (first | omega | decide | (simp; done)))) | (refine op_v (p_indexAddr_arr (j := 0) underlying23 sizeOf3 Y Y ?_) ?_; (focus (first | omega | decide | (simp; done))))
      refine Zl isAgg3 Y ?_
      first | (refine op_v (p_indexAddr_arr0 (j := 1) underlying23 sizeOf3 Y Y ?_) ?_; (focus (first | omega | decide | (simp; done)))) | (refine op_v (p_indexAddr_arr (j := 1) underlying23 sizeOf3 Y Y ?_) ?_; (focus (first | omega | decide | (simp; done))))
      refine Zl isAgg3 Y ?_
      first | (refine op_v (p_indexAddr_arr0 (j := 2) underlying23 sizeOf3 Y Y ?_) ?_; (focus (first | omega | decide | (simp; done)))) | (refine op_v (p_indexAddr_arr (j := 2) underlying23 sizeOf3 Y Y ?_) ?_; (focus (first | omega | decide | (simp; done))))
      refine Zl isAgg3 Y ?_
      first | (refine op_v (p_indexAddr_arr0 (j := 3) underlying23 sizeOf3 Y Y ?_) ?_; (focus (first | omega | decide | (simp; done)))) | (refine op_v (p_indexAddr_arr (j := 3) underlying23 sizeOf3 Y Y ?_) ?_; (focus (first | omega | decide | (simp; done))))
      refine Zl isAgg3 Y ?_
      refine Zc [_, _, _, _, _] Y call13 Y rfl (r10_any rp _ w rs sv hrw hn hs hok y0 y1 y2 y3) ?_
      rintro _ _ ⟨_, ⟨vb, mb, rfl, hB, rfl⟩, rfl⟩
      rw [← hPX] at hB
      obtain ⟨rb, pb, tb, rfl, hRb, hPb, hTb⟩ := id hB
      obtain ⟨qrb, crb, rfl, hlrb, hgrb⟩ := id hRb
      obtain ⟨qpb, cpb, rfl, hlpb, hgpb⟩ := id hPb
      obtain ⟨qtb, ctb, rfl, hltb, hgtb⟩ := id hTb
      refine Zm Y <| Zd Y rfl <| Zd Y rfl <| Ze (w_alloc zeroValue37 (cs := #[_, _, _, _, _, _, _, _, _]) rfl) ?_
      rintro _ _ ⟨bb, rfl, rfl⟩
      refine Ze (w_store_agg sizeOf37 Y Y (by first | (simp [Value.oneCell']; done) | (simp [Value.oneCell', Value.cells]; done)) (by repeat (first | exact Upd.here _ | apply Upd.there)) (by exact (rfl : _ = (#[_, _, _, _, _, _, _, _, _] : Array Value))) (by first | rfl | (simp; done)) (by first | omega | decide | (simp; done)) (by exact free_zero _)) ?_
      rintro _ _ ⟨rfl, rfl⟩
      refine Za Y <| Z0 <| Zn [5, 7, 8, 9, 12, 13, 14, 15, 41, 42, 43] ?_
      refine Zx <| Zq <| Zg <| Zo (by repeat (first | exact Has.here _ | apply Has.there)) (p_load_agg (cs := #[_, _, _, _]) isAgg23 sizeOf23 Y (by first | omega | decide | (simp; done)) (by rfl)) ?_
      refine Zr [_] Y call11 Y rfl (asked_spec a9 b9 c9 d9 ha19 ha29 hb19 hb29 hc19 hc29 hd19 hd29) ?_
      rintro _ _ ⟨rfl, rfl⟩
      refine Ze (w_alloc zeroValue23 (cs := #[_, _, _, _]) rfl) ?_
      rintro _ _ ⟨bz, rfl, rfl⟩
      refine Ze (w_store_agg sizeOf23 Y Y (by first | (simp [Value.oneCell']; done) | (simp [Value.oneCell', Value.cells]; done)) (by repeat (first | exact Upd.here _ | apply Upd.there)) (by exact (rfl : _ = (#[.int .i64 (pickN a9 4 : Int), .int .i64 (pickN b9 4 : Int), .int .i64 ((pickN c9 40 : Int) - 20), .int .i64 ((pickN c9 40 : Int) - 20 + (pickN d9 20 : Int))] : Array Value))) (by first | rfl | (simp; done)) (by first | omega | decide | (simp; done)) (by exact free_zero _)) ?_
      rintro _ _ ⟨rfl, rfl⟩
      refine Z0 <| Zx <| Zq <| Zg <| Zm Y ?_
      first | (refine op_v (p_indexAddr_arr0 (j := 0) underlying23 sizeOf3 Y Y ?_) ?_; (focus (first | omega | decide | (simp; done)))) | (refine op_v (p_indexAddr_arr (j := 0) underlying23 sizeOf3 Y Y ?_) ?_; (focus (first | omega | decide | (simp; done))))
      refine Zl isAgg3 Y ?_
      first | (refine op_v (p_indexAddr_arr0 (j := 1) underlying23 sizeOf3 Y Y ?_) ?_; (focus (first | omega | decide | (simp; done)))) | (refine op_v (p_indexAddr_arr (j := 1) underlying23 sizeOf3 Y Y ?_) ?_; (focus (first | omega | decide | (simp; done))))
      refine Zl isAgg3 Y ?_
      first | (refine op_v (p_indexAddr_arr0 (j := 2) underlying23 sizeOf3 Y Y ?_) ?_; (focus (first | omega | decide | (simp; done)))) | (refine op_v (p_indexAddr_arr (j := 2) underlying23 sizeOf3 Y Y ?_) ?_; (focus (first | omega | decide | (simp; done))))
      refine Zl isAgg3 Y ?_
      first | (refine op_v (p_indexAddr_arr0 (j := 3) underlying23 sizeOf3 Y Y ?_) ?_; (focus (first | omega | decide | (simp; done)))) | (refine op_v (p_indexAddr_arr (j := 3) underlying23 sizeOf3 Y Y ?_) ?_; (focus (first | omega | decide | (simp; done))))
      refine Zl isAgg3 Y ?_
      refine Zc [_, _, _, _, _] Y call12 Y rfl (prove_any _ _ rs _ hst hs hn hok _ _ _ _ Tg zg) ?_
      rintro _ _ ⟨_, ⟨vc, mc, rfl, hC, rfl⟩, rfl⟩
      obtain ⟨PZ, hPZ⟩ : ∃ P, P = proveA rs (pickN a9 4 : Int) (pickN b9 4 : Int) ((pickN c9 40 : Int) - 20) ((pickN c9 40 : Int) - 20 + (pickN d9 20 : Int)) := ⟨_, rfl⟩
      rw [← hPZ] at hC
      obtain ⟨rc, pc, tc, rfl, hRc, hPc, hTc⟩ := id hC
      obtain ⟨qrc, crc, rfl, hlrc, hgrc⟩ := id hRc
      obtain ⟨qpc, cpc, rfl, hlpc, hgpc⟩ := id hPc
      obtain ⟨qtc, ctc, rfl, hltc, hgtc⟩ := id hTc
      refine Zm Y <| Zd Y rfl <| Zd Y rfl <| Ze (w_alloc zeroValue37 (cs := #[_, _, _, _, _, _, _, _, _]) rfl) ?_
      rintro _ _ ⟨bc, rfl, rfl⟩
      refine Ze (w_store_agg sizeOf37 Y Y (by first | (simp [Value.oneCell']; done) | (simp [Value.oneCell', Value.cells]; done)) (by repeat (first | exact Upd.here _ | apply Upd.there)) (by exact (rfl : _ = (#[_, _, _, _, _, _, _, _, _] : Array Value))) (by first | rfl | (simp; done)) (by first | omega | decide | (simp; done)) (by exact free_zero _)) ?_
      rintro _ _ ⟨rfl, rfl⟩
      refine Za Y <| Z0 <| Zn [5, 7, 8, 9, 12, 13, 14, 15, 17, 41, 42, 43] ?_
      refine Zx <| Zq <| Zg <| Zo (by repeat (first | exact Has.here _ | apply Has.there)) (p_load_agg (cs := #[_, _, _, _, _, _, _, _, _]) isAgg37 sizeOf37 Y (by first | omega | decide | (simp; done)) (by rfl)) ?_
      refine Zc [_] Y call14 Y rfl (rows_spec hA) ?_
      rintro _ _ ⟨_, ⟨vx, sx, rfl, hx, rfl⟩, rfl⟩
      have hrl := rowsT_le PX
      obtain ⟨qx, cx, rfl⟩ := hx.form
      have hUx := rowsU_row hx (by omega)
      refine Zm Y <| Zd Y rfl <| Zd Y rfl <| Za Y <| Za Y <| Z0 <| Zx <| Zq <| Zg <| Zo (by repeat (first | exact Has.here _ | apply Has.there)) (p_load_agg (cs := #[_, _, _, _, _, _, _, _, _]) isAgg37 sizeOf37 Y (by first | omega | decide | (simp; done)) (by rfl)) ?_
      refine Zc [_] Y call15 Y rfl (r10_rows hB) ?_
      rintro _ _ ⟨_, ⟨vy, sy, rfl, hy, rfl⟩, rfl⟩
      obtain ⟨qy, cy, rfl⟩ := hy.form
      have hUy := rowsU_row hy (by omega)
      refine Zm Y <| Zd Y rfl <| Zd Y rfl <| Za Y <| Za Y <| Z0 <| Zn [5, 7, 8, 9, 12, 13, 14, 15, 17, 19, 20, 21, 22, 41, 42, 43] ?_
      refine Zx <| Zq <| at_draw (n := 29) (0 :: 0 :: 3 :: 7 :: 15 :: 15 :: 63 :: 127 :: 255 :: 511 :: 1023 :: 1023 :: 4095 :: 8191 :: 16383 :: 32767 :: 32767 :: 131071 :: 262143 :: 524287 :: 1048575 :: 2097151 :: 2097151 :: 8388607 :: 2097151 :: 2097151 :: 67108863 :: 134217727 :: 268435455 :: []) 75628608 (by kernel_rfl) (by kernel_rfl) rfl ?_
      refine Zi 1 0 rfl (p_move Y) <| Zi 3 1 rfl (p_move Y) ?_
      first | refine lin_v (D' := 7) 2 (p_neq_nat Y Y) ?_ | refine lin_v (D' := 7) 2 (p_neq Y Y) ?_
      refine Zi 15 3 rfl (p_move Y) ?_
      first | refine lin_split (t := 101) Y (fun k3 => ?_) (fun k3 => ?_) | refine lin_split_bool (t := 101) Y (fun k3 => ?_) (fun k3 => ?_)
      ·
       first | rw [decide_eq_true k3] | rw [k3] | skip
       exact absurd rfl k3
      ·
       first | rw [decide_eq_false k3] | rw [k3] | skip
       refine lin_rg (D' := 31) 4 Y rfl rfl rfl (by repeat (first | exact Has.here _ | apply Has.there)) (p_load_agg (cs := #[_, _, _, _, _, _, _, _, _]) isAgg37 sizeOf37 Y (by first | omega | decide | (simp; done)) (by rfl)) ?_
       refine lin_rg (D' := 63) 5 Y rfl rfl rfl (by repeat (first | exact Has.here _ | apply Has.there)) (p_load_agg (cs := #[_, _, _, _, _, _, _, _, _]) isAgg37 sizeOf37 Y (by first | omega | decide | (simp; done)) (by rfl)) ?_
       refine Zz (l := [6]) ?_
       refine Zy 63 127 [5, 4] [false, false] [] rfl Y rfl rfl rfl rfl (Zu [_, _] Y call16 Y rfl (r10_same2 hA hB)) ?hk_4 (fun _ _ h => h.elim) ?hl_4
       case hk_4 =>
        rintro _ _ ⟨rfl, rfl⟩
        refine ⟨keep_nil, ?_⟩
        rw [decide_eq_true (show PX = PX from rfl)]
        first | refine lin_wg (D' := 255) 7 Y rfl rfl rfl (p_not_dec Y) ?_ | refine lin_wg (D' := 255) 7 Y rfl rfl rfl (p_not Y) ?_
        refine Zi 511 8 rfl (p_pick_f Y Y) <| Zi 1023 9 rfl (p_move Y) ?_
        refine lin_split_bool (t := 107) Y (fun k4 => ?_) (fun k4 => ?_)
        ·
         first | rw [decide_eq_true k4] | rw [k4] | skip
         cases k4
        ·
         first | rw [decide_eq_false k4] | rw [k4] | skip
         refine lin_wg (D' := 2047) 10 Y rfl rfl rfl (p_move Y) ?_
         refine lin_wg (D' := 4095) 11 Y rfl rfl rfl (p_move Y) ?_
         refine lin_wg (D' := 8191) 12 Y rfl rfl rfl (p_neq_bool underlying4 Y Y) ?_
         refine Zi 16383 13 rfl (p_pick_f Y Y) <| Zi 32767 14 rfl (p_move Y) ?_
         first | refine lin_split (t := 112) Y (fun k5 => ?_) (fun k5 => ?_) | refine lin_split_bool (t := 112) Y (fun k5 => ?_) (fun k5 => ?_)
         ·
          first | rw [decide_eq_true k5] | rw [k5] | skip
          first | exact absurd rfl k5 | (simp at k5; done)
         ·
          first | rw [decide_eq_false k5] | rw [k5] | skip
          refine lin_wg (D' := 65535) 15 Y rfl rfl rfl (p_move Y) ?_
          refine lin_wg (D' := 131071) 16 Y rfl rfl rfl (p_move Y) ?_
          refine Zz (l := [17]) ?_
          refine Zy 131071 262143 [] [] [] rfl Y rfl rfl rfl rfl (Zu [_, _] Y call17 Y rfl (r4_same2 hUx hUy)) ?hk_5 (fun _ _ h => h.elim) ?hl_5
          case hk_5 =>
           rintro _ _ ⟨rfl, rfl⟩
           refine ⟨keep_nil, ?_⟩
           rw [decide_eq_true (show rowsT PX = rowsT PX from rfl)]
           first | refine lin_wg (D' := 524287) 18 Y rfl rfl rfl (p_not_dec Y) ?_ | refine lin_wg (D' := 524287) 18 Y rfl rfl rfl (p_not Y) ?_
           refine Zi 1048575 19 rfl (p_pick_f Y Y) <| Zi 2097151 20 rfl (p_move Y) ?_
           first | refine lin_split (t := 118) Y (fun k6 => ?_) (fun k6 => ?_) | refine lin_split_bool (t := 118) Y (fun k6 => ?_) (fun k6 => ?_)
           ·
            first | rw [decide_eq_true k6] | rw [k6] | skip
            first | exact absurd rfl k6 | (cases k6; done)
           ·
            first | rw [decide_eq_false k6] | rw [k6] | skip
            refine lin_rg (D' := 4194303) 21 Y rfl rfl rfl (by repeat (first | exact Has.here _ | apply Has.there)) (p_load_agg (cs := #[_, _, _, _, _, _, _, _, _]) isAgg37 sizeOf37 Y (by first | omega | decide | (simp; done)) (by rfl)) ?_
            refine lin_rg (D' := 8388607) 22 Y rfl rfl rfl (by repeat (first | exact Has.here _ | apply Has.there)) (p_load_agg (cs := #[_, _, _, _, _, _, _, _, _]) isAgg37 sizeOf37 Y (by first | omega | decide | (simp; done)) (by rfl)) ?_
            refine lin_rg (D' := 25165823) 24 Y rfl rfl rfl (by repeat (first | exact Has.here _ | apply Has.there)) (p_load_agg (cs := #[_, _, _, _, _, _, _, _, _]) isAgg37 sizeOf37 Y (by first | omega | decide | (simp; done)) (by rfl)) ?_
            refine lin_rg (D' := 58720255) 25 Y rfl rfl rfl (by repeat (first | exact Has.here _ | apply Has.there)) (p_load_agg (cs := #[_, _, _, _, _, _, _, _, _]) isAgg37 sizeOf37 Y (by first | omega | decide | (simp; done)) (by rfl)) ?_
            refine Zz (l := [23]) ?_
            refine Zy 8388607 67108863 [25, 24, 22, 21] [true, true, false, false] [(25, (_, _)), (24, (_, _))] rfl Y rfl rfl rfl rfl (Zu [_, _] Y call18 Y rfl (same_d2 hA hC)) ?hk_6 (fun _ _ h => h.elim) ?hl_6
            case hk_6 =>
             rintro _ _ ⟨rfl, rfl⟩
             refine ⟨Zk (Zk (keep_nil)), ?_⟩
             refine Zz (l := [26]) ?_
             refine Zy 67108863 134217727 [25, 24] [false, false] [] rfl Y rfl rfl rfl rfl (Zu [_, _] Y call16 Y rfl (r10_same2 hA hC)) ?hk_7 (fun _ _ h => h.elim) ?hl_7
             case hk_7 =>
              rintro _ _ ⟨rfl, rfl⟩
              refine ⟨keep_nil, ?_⟩
              refine lin_wg (D' := 268435455) 27 Y rfl rfl rfl (p_neq_bool underlying4 Y Y) ?_
              refine Zi 536870911 28 rfl (p_pick_f Y Y) <| lin_nil ?_
              refine Zn [5, 7, 8, 9, 41, 42, 43, 126] ?_
              refine Zx ?_
              first | refine at_if Y (fun k7 => ?_) (fun k7 => ?_) | refine at_if_bool Y (fun k7 => ?_) (fun k7 => ?_)
              ·
               first | exact absurd rfl k7 | (simp at k7; done)
              ·
               refine at_skip <| nx_block_normal <| Zx <| Zg ?_
               first | (refine op_v (p_add_nat (n := 1) Y Y ?_) ?_; (focus (omega))) | (refine op_v (p_add Y Y (IntWalk.i64_in _ ?_)) ?_; (focus (omega)))
               refine Zm Y <| Z0 <| Zn [43, 5, 7, 8, 9, 41, 42] ?_
               refine nx_againB (e' := [(43, _)]) (m := _) (H' := _) (by exact ⟨i + 1, rfl, by omega, rfl, rfl⟩)
             case hl_7 =>
              exact each_nil
            case hl_6 =>
             exact each_nil
          case hl_5 =>
           exact each_nil
       case hl_4 =>
        exact each_nil
     ·
      refine at_exit <| Zt <| Zt <| nx_block_exit <| Zx <| Zq <| Zg <| Zm Y <| Za Y <| Z0 <| Zx <| at_ret ?_
      refine nx_end1 rfl results3 Y (by exact ⟨rfl, rfl⟩)
    case hl_2 =>
     exact each_nil
   case hl_1 =>
    exact each_nil

end Go.Proofs.YtjeepldonhgohaaGreatDoor


namespace Go.Proofs.YtjeepldonhgohaaGreatDoor
open Go.Proofs.Tryz
open Go Go.RowKit Gw
set_option linter.unusedVariables false
set_option linter.unusedSimpArgs false
set_option maxRecDepth 100000
attribute [local irreducible] Gw.At Gw.Nx Gw.Ops
theorem matches_card (p : Option Addr) (cap : Nat) (ys : List (List Int)) (M : List Chunk) (hX : SixIn M (.slice p ys.length cap) ys) (a b c d : Int) (ha : -9223372036854775808 ≤ a ∧ a ≤ 9223372036854775807) (hb : -9223372036854775808 ≤ b ∧ b ≤ 9223372036854775807) (hc : -9223372036854775808 ≤ c ∧ c ≤ 9223372036854775807) (hd : -9223372036854775808 ≤ d ∧ d ≤ 9223372036854775807) (a9 b9 c9 d9 : Int) (ha9 : -9223372036854775808 ≤ a9 ∧ a9 ≤ 9223372036854775807) (hb9 : -9223372036854775808 ≤ b9 ∧ b9 ≤ 9223372036854775807) (hc9 : -9223372036854775808 ≤ c9 ∧ c9 ≤ 9223372036854775807) (hd9 : -9223372036854775808 ≤ d9 ∧ d9 ≤ 9223372036854775807) (Tg : TypeId) (zg : Nat × Nat) :
    DoesR Tryz.prog 3 #[.slice p ys.length cap, .agg #[.int .i64 a, .int .i64 b, .int .i64 c, .int .i64 d], .agg #[.int .i64 a9, .int .i64 b9, .int .i64 c9, .int .i64 d9]] [[(0, .cells (kTab.map u32v).toArray Tg zg)], M] (.bool true) := matches_law hX a b c d ha.1 ha.2 hb.1 hb.2 hc.1 hc.2 hd.1 hd.2 a9 b9 c9 d9 ha9.1 ha9.2 hb9.1 hb9.2 hc9.1 hc9.2 hd9.1 hd9.2 Tg zg

end Go.Proofs.YtjeepldonhgohaaGreatDoor
