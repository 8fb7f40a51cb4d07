/- The law LeaseAgrees. -/
import Derived.Test.YtkgmgmkbgnkdnaaGreatDoorEz
import Derived.Test.YtkgmgmkbgnkdnaaGreatDoorLa1
namespace Go.Proofs.YtkgmgmkbgnkdnaaGreatDoor
open Go.Proofs.Tryz
open Go Go.RowKit Gw
set_option linter.unusedVariables false
set_option linter.unusedSimpArgs false
set_option maxRecDepth 100000
attribute [local irreducible] Gw.At Gw.Nx Gw.Ops
theorem pick_as (c : Int) (n : Nat) (hn : 0 < n) (hn2 : n ≤ 1000000) (h1 : -9223372036854775808 ≤ c) (h2 : c ≤ 9223372036854775807) : ∃ k, k = pickN c n ∧ k < n ∧ DoesR Tryz.prog 6 #[.int .i64 c, .int .i64 (n : Int)] [] (.int .i64 (k : Int)) := ⟨_, rfl, pickN_lt c n hn, pick16 c n hn hn2 h1 h2⟩

set_option maxHeartbeats 4000000 in
theorem agrees_law {M : List Chunk} {v : Value} {xs : List (List Int)} (hX : SixIn M v xs) (q0 q1 q2 q3 q4 be ba ar : Int) (hq01 : -9223372036854775808 ≤ q0) (hq02 : q0 ≤ 9223372036854775807) (hq11 : -9223372036854775808 ≤ q1) (hq12 : q1 ≤ 9223372036854775807) (hq21 : -9223372036854775808 ≤ q2) (hq22 : q2 ≤ 9223372036854775807) (hq31 : -9223372036854775808 ≤ q3) (hq32 : q3 ≤ 9223372036854775807) (hq41 : -9223372036854775808 ≤ q4) (hq42 : q4 ≤ 9223372036854775807) (hbe1 : -9223372036854775808 ≤ be) (hbe2 : be ≤ 9223372036854775807) (hba1 : -9223372036854775808 ≤ ba) (hba2 : ba ≤ 9223372036854775807) (har1 : -9223372036854775808 ≤ ar) (har2 : ar ≤ 9223372036854775807) (Tg : TypeId) (zg : Nat × Nat) : DoesR Tryz.prog 3 #[v, .agg #[.int .i64 q0, .int .i64 q1, .int .i64 q2, .int .i64 q3, .int .i64 q4], .int .i64 be, .int .i64 ba, .int .i64 ar] [[(1, .cells (kTab.map u32v).toArray Tg zg)], M] (.bool true) := by
 have hml : maxLen = 9223372036854775807 := rfl
 obtain ⟨py, capy, rfl, hyl, hgy⟩ := id hX
 have hX2 := six_take hX (min xs.length 20) (Nat.min_le_left _ _)
 have hyk : (xs.take (min xs.length 20)).length ≤ 20 := by rw [List.length_take]; omega
 have htd := tdiv_in hq41 hq42
 obtain ⟨n0, hn0, hp0, P0⟩ := pick_as q0 5 (by decide) (by decide) hq01 hq02
 obtain ⟨n1, hn1, hp1, P1⟩ := pick_as q1 3 (by decide) (by decide) hq11 hq12
 obtain ⟨n2, hn2, hp2, P2⟩ := pick_as q2 4 (by decide) (by decide) hq21 hq22
 obtain ⟨n3, hn3, hp3, P3⟩ := pick_as q3 12 (by decide) (by decide) hq31 hq32
 obtain ⟨n4, hn4, hp4, P4⟩ := pick_as q4 12 (by decide) (by decide) hq41 hq42
 obtain ⟨n5, hn5, hp5, P5⟩ := pick_as (q4.tdiv 12) 3 (by decide) (by decide) htd.1 htd.2
 refine spec_enter func3 rfl ntmps3 rfl ?_
 intro u R
 refine Zb [0, 1, 2, 3, 4] ?_
 refine Zq <| Zg <| Ze (w_box Y (cs := #[_, _, _, _, _]) rfl) ?_
 rintro _ _ ⟨bx, rfl, rfl⟩
 refine Za Y <| Z0 <| Zx <| Zq <| Zg <| Xr [] Y call4 Y rfl (sane16) ?_
 refine Za Y <| Z0 <| Zx <| Zq <| Zg <| Zm Y <| Zm Y <| Zv (p_len_slice underlying22 Y) <| Zv (p_min_nat (n := 20) Y Y) ?_
 (refine op_v (p_slice_slice_to underlying22 sizeOf65 Y Y ?_) ?_; (focus (first | omega | (simp; omega))))
 refine Zc [_] Y call5 Y rfl (r4_log hX2 (by omega)) ?_
 rintro _ _ ⟨_, ⟨l, sl, hlog, hll, hRI, rfl⟩, rfl⟩
 obtain ⟨pl, capl, rfl, hlc, hgl⟩ := id hRI
 refine Za Y <| Z0 <| Zx <| Zq <| Zg ?_
 (refine op_v (p_indexAddr_arr0 (j := 3) underlying23 sizeOf3 Y Y ?_) ?_; (focus (first | omega | decide | (simp; done))))
 refine Zl isAgg3 Y ?_
 refine Xr [_, _] Y call6 Y rfl (P3) ?_
 refine Za Y <| Z0 <| Zn [2, 3, 4, 6, 11, 12, 13] ?_
 refine Zx <| Zb [13, 2, 3, 4, 6, 11, 12] ?_
 refine at_cutB (e0 := [(13, _)]) (H0 := []) (fun e H => ∃ (bq : Nat), (True) ∧ e = [(14, .pointer (some ⟨bq, 0, none⟩))] ∧ H = [[(bq, .cells #[.int .i64 ((2 + n0 : Nat) : Int), .int .i64 (n1 : Int), .int .i64 (n2 : Int), .int .i64 (n3 : Int), .int .i64 ((n3 + n4 : Nat) : Int), .int .i64 0, .int .i64 0] 30 (0, 0))]]) Wp ?hx_1 ?hy_1
 case hx_1 =>
  refine at_draw (n := 21) (0 :: 0 :: 2 :: 6 :: 15 :: 31 :: 0 :: 64 :: 206 :: 0 :: 512 :: 1998 :: 0 :: 0 :: 0 :: 16384 :: 53198 :: 126926 :: 262143 :: 0 :: 1048575 :: []) 1640713 (by kernel_rfl) (by kernel_rfl) rfl ?_
  (refine lin_v (D' := 2) 1 (p_indexAddr_arr0 (j := 0) underlying23 sizeOf3 Y Y ?_) ?_; (focus (first | omega | decide | (simp; done))))
  refine Zj 6 2 rfl isAgg3 Y ?_
  (refine lin_v (D' := 70) 6 (p_indexAddr_arr0 (j := 1) underlying23 sizeOf3 Y Y ?_) ?_; (focus (first | omega | decide | (simp; done))))
  refine Zj 198 7 rfl isAgg3 Y ?_
  (refine lin_v (D' := 710) 9 (p_indexAddr_arr0 (j := 2) underlying23 sizeOf3 Y Y ?_) ?_; (focus (first | omega | decide | (simp; done))))
  refine Zj 1734 10 rfl isAgg3 Y ?_
  refine Zi 5830 12 rfl (p_move Y) <| Zi 14022 13 rfl (p_move Y) ?_
  (refine lin_v (D' := 30406) 14 (p_indexAddr_arr0 (j := 4) underlying23 sizeOf3 Y Y ?_) ?_; (focus (first | omega | decide | (simp; done))))
  refine Zj 63174 15 rfl isAgg3 Y ?_
  refine Zz (l := [0, 3, 19]) ?_
  refine Zy 0 63175 [15, 10, 7, 2] [true, true, true, true] [(15, (_, _)), (10, (_, _)), (7, (_, _)), (2, (_, _))] rfl Y rfl rfl rfl rfl (w_buildSlice (vs := [_, _, _, _, _]) (cs := [_, _, _, _, _]) underlying28 sizeOf3 zeroValue3 Y rfl rfl rfl rfl rfl) ?hk_2 (fun _ _ h => h.elim) ?hl_2
  case hk_2 =>
   rintro _ _ ⟨gk, rfl, rfl⟩
   refine ⟨Zk (Zk (Zk (Zk (keep_nil)))), ?_⟩
   refine Zz (l := [3, 19]) ?_
   refine Zy 6 63183 [15, 10, 7, 2] [true, true, true, false] [(15, (_, _)), (10, (_, _)), (7, (_, _))] rfl Y rfl rfl rfl rfl (Zu [_, _] Y call6 Y rfl (P0)) ?hk_3 (fun _ _ h => h.elim) ?hl_3
   case hk_3 =>
    rintro _ _ ⟨rfl, rfl⟩
    refine ⟨Zk (Zk (Zk (keep_nil))), ?_⟩
    (refine lin_v (D' := 63199) 4 (p_indexAddr_nat0 underlying28 sizeOf3 Y Y ?_) ?_; (focus (first | omega | decide | (simp; done))))
    refine Zj 63231 5 rfl isAgg3 Y (hv := by exact kind_at _ hp0) ?_
    refine Zz (l := [8, 19]) ?_
    refine Zy 206 63487 [5, 15, 10, 7] [true, true, true, false] [(5, (_, _)), (15, (_, _)), (10, (_, _))] rfl Y rfl rfl rfl rfl (Zu [_, _] Y call6 Y rfl (P1)) ?hk_4 (fun _ _ h => h.elim) ?hl_4
    case hk_4 =>
     rintro _ _ ⟨rfl, rfl⟩
     refine ⟨Zk (Zk (Zk (keep_nil))), ?_⟩
     refine Zz (l := [11, 19]) ?_
     refine Zy 1998 65535 [5, 15, 10] [true, true, false] [(5, (_, _)), (15, (_, _))] rfl Y rfl rfl rfl rfl (Zu [_, _] Y call6 Y rfl (P2)) ?hk_5 (fun _ _ h => h.elim) ?hl_5
     case hk_5 =>
      rintro _ _ ⟨rfl, rfl⟩
      refine ⟨Zk (Zk (keep_nil)), ?_⟩
      refine Zz (l := [16, 19]) ?_
      refine Zy 53198 131071 [5, 15] [true, false] [(5, (_, _))] rfl Y rfl rfl rfl rfl (Zu [_, _] Y call6 Y rfl (P4)) ?hk_6 (fun _ _ h => h.elim) ?hl_6
      case hk_6 =>
       rintro _ _ ⟨rfl, rfl⟩
       refine ⟨Zk (keep_nil), ?_⟩
       (refine lin_v (D' := 262143) 17 (p_add_nat Y Y ?_) ?_; (focus (omega)))
       refine Zi 524287 18 rfl (p_build (vs := [(0, .int .i64 ((2 + n0 : Nat) : Int)), (1, .int .i64 (n1 : Int)), (2, .int .i64 (n2 : Int)), (3, .int .i64 (n3 : Int)), (4, .int .i64 ((n3 + n4 : Nat) : Int))]) (cs := #[.int .i64 ((2 + n0 : Nat) : Int), .int .i64 (n1 : Int), .int .i64 (n2 : Int), .int .i64 (n3 : Int), .int .i64 ((n3 + n4 : Nat) : Int), .int .i64 0, .int .i64 0]) Y (run_build_struct (pl := #[(0, 1), (1, 1), (2, 1), (3, 1), (4, 1), (5, 1), (6, 1)]) zeroValue30 underlying30 (fun _ => by kernel_rfl) (by kernel_rfl))) ?_
       refine Yz 19 0 1048575 [5] [true] [(5, (_, _))] rfl Y rfl rfl rfl rfl (w_alloc zeroValue30 (cs := #[_, _, _, _, _, _, _]) rfl) ?_
       rintro _ _ ⟨bq, rfl, rfl⟩
       refine ⟨Zk (keep_nil), ?_⟩
       refine Yz 20 1048575 2097151 [5] [false] [] rfl Y rfl rfl rfl rfl (w_store_agg sizeOf30 Y Y (by (simp [Value.oneCell']; done)) Wu (by rfl) (by first | rfl | (simp; done)) Wb (by exact free_zero _)) ?_
       rintro _ _ ⟨rfl, rfl⟩
       refine ⟨keep_nil, ?_⟩
       refine lin_nil ?_
       refine Zn [14, 2, 3, 4, 6, 11, 12] ?_
       refine nx_cutB (e' := [(14, _)]) (H' := _) (by exact ⟨bq, trivial, rfl, rfl⟩)
      refine Zy 0 589823 [5, 15] [true, true] [(5, (_, _)), (15, (_, _))] rfl Y rfl rfl rfl rfl (w_alloc zeroValue30 (cs := #[_, _, _, _, _, _, _]) rfl) ?hk_10 (fun _ _ h => h.elim) ?hl_10
      case hk_10 =>
       rintro _ _ ⟨bq, rfl, rfl⟩
       refine ⟨Zk (Zk (keep_nil)), ?_⟩
       refine Yz 16 53198 655359 [5, 15] [true, false] [(5, (_, _))] rfl Y rfl rfl rfl rfl (Zu [_, _] Y call6 Y rfl (P4)) ?_
       rintro _ _ ⟨rfl, rfl⟩
       refine ⟨Zk (keep_nil), ?_⟩
       (refine lin_v (D' := 786431) 17 (p_add_nat Y Y ?_) ?_; (focus (omega)))
       refine Zi 1048575 18 rfl (p_build (vs := [(0, .int .i64 ((2 + n0 : Nat) : Int)), (1, .int .i64 (n1 : Int)), (2, .int .i64 (n2 : Int)), (3, .int .i64 (n3 : Int)), (4, .int .i64 ((n3 + n4 : Nat) : Int))]) (cs := #[.int .i64 ((2 + n0 : Nat) : Int), .int .i64 (n1 : Int), .int .i64 (n2 : Int), .int .i64 (n3 : Int), .int .i64 ((n3 + n4 : Nat) : Int), .int .i64 0, .int .i64 0]) Y (run_build_struct (pl := #[(0, 1), (1, 1), (2, 1), (3, 1), (4, 1), (5, 1), (6, 1)]) zeroValue30 underlying30 (fun _ => by kernel_rfl) (by kernel_rfl))) ?_
       refine Yz 20 1048575 2097151 [5] [false] [] rfl Y rfl rfl rfl rfl (w_store_agg sizeOf30 Y Y (by (simp [Value.oneCell']; done)) Wu (by rfl) (by first | rfl | (simp; done)) Wb (by exact free_zero _)) ?_
       rintro _ _ ⟨rfl, rfl⟩
       refine ⟨keep_nil, ?_⟩
       refine lin_nil ?_
       refine Zn [14, 2, 3, 4, 6, 11, 12] ?_
       refine nx_cutB (e' := [(14, _)]) (H' := _) (by exact ⟨bq, trivial, rfl, rfl⟩)
      exact each_nil
     refine Zy 0 587775 [5, 15, 10] [true, true, true] [(5, (_, _)), (15, (_, _)), (10, (_, _))] rfl Y rfl rfl rfl rfl (w_alloc zeroValue30 (cs := #[_, _, _, _, _, _, _]) rfl) ?hk_14 (fun _ _ h => h.elim) ?hl_14
     case hk_14 =>
      rintro _ _ ⟨bq, rfl, rfl⟩
      refine ⟨Zk (Zk (Zk (keep_nil))), ?_⟩
      refine Yz 11 1998 589823 [5, 15, 10] [true, true, false] [(5, (_, _)), (15, (_, _))] rfl Y rfl rfl rfl rfl (Zu [_, _] Y call6 Y rfl (P2)) ?_
      rintro _ _ ⟨rfl, rfl⟩
      refine ⟨Zk (Zk (keep_nil)), ?_⟩
      refine Yz 16 53198 655359 [5, 15] [true, false] [(5, (_, _))] rfl Y rfl rfl rfl rfl (Zu [_, _] Y call6 Y rfl (P4)) ?_
      rintro _ _ ⟨rfl, rfl⟩
      refine ⟨Zk (keep_nil), ?_⟩
      (refine lin_v (D' := 786431) 17 (p_add_nat Y Y ?_) ?_; (focus (omega)))
      refine Zi 1048575 18 rfl (p_build (vs := [(0, .int .i64 ((2 + n0 : Nat) : Int)), (1, .int .i64 (n1 : Int)), (2, .int .i64 (n2 : Int)), (3, .int .i64 (n3 : Int)), (4, .int .i64 ((n3 + n4 : Nat) : Int))]) (cs := #[.int .i64 ((2 + n0 : Nat) : Int), .int .i64 (n1 : Int), .int .i64 (n2 : Int), .int .i64 (n3 : Int), .int .i64 ((n3 + n4 : Nat) : Int), .int .i64 0, .int .i64 0]) Y (run_build_struct (pl := #[(0, 1), (1, 1), (2, 1), (3, 1), (4, 1), (5, 1), (6, 1)]) zeroValue30 underlying30 (fun _ => by kernel_rfl) (by kernel_rfl))) ?_
      refine Yz 20 1048575 2097151 [5] [false] [] rfl Y rfl rfl rfl rfl (w_store_agg sizeOf30 Y Y (by (simp [Value.oneCell']; done)) Wu (by rfl) (by first | rfl | (simp; done)) Wb (by exact free_zero _)) ?_
      rintro _ _ ⟨rfl, rfl⟩
      refine ⟨keep_nil, ?_⟩
      refine lin_nil ?_
      refine Zn [14, 2, 3, 4, 6, 11, 12] ?_
      refine nx_cutB (e' := [(14, _)]) (H' := _) (by exact ⟨bq, trivial, rfl, rfl⟩)
     exact each_nil
    refine Zy 0 587519 [5, 15, 10, 7] [true, true, true, true] [(5, (_, _)), (15, (_, _)), (10, (_, _)), (7, (_, _))] rfl Y rfl rfl rfl rfl (w_alloc zeroValue30 (cs := #[_, _, _, _, _, _, _]) rfl) ?hk_19 (fun _ _ h => h.elim) ?hl_19
    case hk_19 =>
     rintro _ _ ⟨bq, rfl, rfl⟩
     refine ⟨Zk (Zk (Zk (Zk (keep_nil)))), ?_⟩
     refine Yz 8 206 587775 [5, 15, 10, 7] [true, true, true, false] [(5, (_, _)), (15, (_, _)), (10, (_, _))] rfl Y rfl rfl rfl rfl (Zu [_, _] Y call6 Y rfl (P1)) ?_
     rintro _ _ ⟨rfl, rfl⟩
     refine ⟨Zk (Zk (Zk (keep_nil))), ?_⟩
     refine Yz 11 1998 589823 [5, 15, 10] [true, true, false] [(5, (_, _)), (15, (_, _))] rfl Y rfl rfl rfl rfl (Zu [_, _] Y call6 Y rfl (P2)) ?_
     rintro _ _ ⟨rfl, rfl⟩
     refine ⟨Zk (Zk (keep_nil)), ?_⟩
     refine Yz 16 53198 655359 [5, 15] [true, false] [(5, (_, _))] rfl Y rfl rfl rfl rfl (Zu [_, _] Y call6 Y rfl (P4)) ?_
     rintro _ _ ⟨rfl, rfl⟩
     refine ⟨Zk (keep_nil), ?_⟩
     (refine lin_v (D' := 786431) 17 (p_add_nat Y Y ?_) ?_; (focus (omega)))
     refine Zi 1048575 18 rfl (p_build (vs := [(0, .int .i64 ((2 + n0 : Nat) : Int)), (1, .int .i64 (n1 : Int)), (2, .int .i64 (n2 : Int)), (3, .int .i64 (n3 : Int)), (4, .int .i64 ((n3 + n4 : Nat) : Int))]) (cs := #[.int .i64 ((2 + n0 : Nat) : Int), .int .i64 (n1 : Int), .int .i64 (n2 : Int), .int .i64 (n3 : Int), .int .i64 ((n3 + n4 : Nat) : Int), .int .i64 0, .int .i64 0]) Y (run_build_struct (pl := #[(0, 1), (1, 1), (2, 1), (3, 1), (4, 1), (5, 1), (6, 1)]) zeroValue30 underlying30 (fun _ => by kernel_rfl) (by kernel_rfl))) ?_
     refine Yz 20 1048575 2097151 [5] [false] [] rfl Y rfl rfl rfl rfl (w_store_agg sizeOf30 Y Y (by (simp [Value.oneCell']; done)) Wu (by rfl) (by first | rfl | (simp; done)) Wb (by exact free_zero _)) ?_
     rintro _ _ ⟨rfl, rfl⟩
     refine ⟨keep_nil, ?_⟩
     refine lin_nil ?_
     refine Zn [14, 2, 3, 4, 6, 11, 12] ?_
     refine nx_cutB (e' := [(14, _)]) (H' := _) (by exact ⟨bq, trivial, rfl, rfl⟩)
    exact each_nil
   refine Zy 0 587463 [15, 10, 7, 2] [true, true, true, true] [(15, (_, _)), (10, (_, _)), (7, (_, _)), (2, (_, _))] rfl Y rfl rfl rfl rfl (w_alloc zeroValue30 (cs := #[_, _, _, _, _, _, _]) rfl) ?hk_25 (fun _ _ h => h.elim) ?hl_25
   case hk_25 =>
    rintro _ _ ⟨bq, rfl, rfl⟩
    refine ⟨Zk (Zk (Zk (Zk (keep_nil)))), ?_⟩
    refine Yz 3 6 587471 [15, 10, 7, 2] [true, true, true, false] [(15, (_, _)), (10, (_, _)), (7, (_, _))] rfl Y rfl rfl rfl rfl (Zu [_, _] Y call6 Y rfl (P0)) ?_
    rintro _ _ ⟨rfl, rfl⟩
    refine ⟨Zk (Zk (Zk (keep_nil))), ?_⟩
    (refine lin_v (D' := 587487) 4 (p_indexAddr_nat0 underlying28 sizeOf3 Y Y ?_) ?_; (focus (first | omega | decide | (simp; done))))
    refine Zj 587519 5 rfl isAgg3 Y (hv := by exact kind_at _ hp0) ?_
    refine Yz 8 206 587775 [5, 15, 10, 7] [true, true, true, false] [(5, (_, _)), (15, (_, _)), (10, (_, _))] rfl Y rfl rfl rfl rfl (Zu [_, _] Y call6 Y rfl (P1)) ?_
    rintro _ _ ⟨rfl, rfl⟩
    refine ⟨Zk (Zk (Zk (keep_nil))), ?_⟩
    refine Yz 11 1998 589823 [5, 15, 10] [true, true, false] [(5, (_, _)), (15, (_, _))] rfl Y rfl rfl rfl rfl (Zu [_, _] Y call6 Y rfl (P2)) ?_
    rintro _ _ ⟨rfl, rfl⟩
    refine ⟨Zk (Zk (keep_nil)), ?_⟩
    refine Yz 16 53198 655359 [5, 15] [true, false] [(5, (_, _))] rfl Y rfl rfl rfl rfl (Zu [_, _] Y call6 Y rfl (P4)) ?_
    rintro _ _ ⟨rfl, rfl⟩
    refine ⟨Zk (keep_nil), ?_⟩
    (refine lin_v (D' := 786431) 17 (p_add_nat Y Y ?_) ?_; (focus (omega)))
    refine Zi 1048575 18 rfl (p_build (vs := [(0, .int .i64 ((2 + n0 : Nat) : Int)), (1, .int .i64 (n1 : Int)), (2, .int .i64 (n2 : Int)), (3, .int .i64 (n3 : Int)), (4, .int .i64 ((n3 + n4 : Nat) : Int))]) (cs := #[.int .i64 ((2 + n0 : Nat) : Int), .int .i64 (n1 : Int), .int .i64 (n2 : Int), .int .i64 (n3 : Int), .int .i64 ((n3 + n4 : Nat) : Int), .int .i64 0, .int .i64 0]) Y (run_build_struct (pl := #[(0, 1), (1, 1), (2, 1), (3, 1), (4, 1), (5, 1), (6, 1)]) zeroValue30 underlying30 (fun _ => by kernel_rfl) (by kernel_rfl))) ?_
    refine Yz 20 1048575 2097151 [5] [false] [] rfl Y rfl rfl rfl rfl (w_store_agg sizeOf30 Y Y (by (simp [Value.oneCell']; done)) Wu (by rfl) (by first | rfl | (simp; done)) Wb (by exact free_zero _)) ?_
    rintro _ _ ⟨rfl, rfl⟩
    refine ⟨keep_nil, ?_⟩
    refine lin_nil ?_
    refine Zn [14, 2, 3, 4, 6, 11, 12] ?_
    refine nx_cutB (e' := [(14, _)]) (H' := _) (by exact ⟨bq, trivial, rfl, rfl⟩)
   exact each_nil
  refine Zy 6 63182 [15, 10, 7, 2] [true, true, true, false] [(15, (_, _)), (10, (_, _)), (7, (_, _))] rfl Y rfl rfl rfl rfl (Zu [_, _] Y call6 Y rfl (P0)) ?hk_32 (fun _ _ h => h.elim) ?hl_32
  case hk_32 =>
   rintro _ _ ⟨rfl, rfl⟩
   refine ⟨Zk (Zk (Zk (keep_nil))), ?_⟩
   refine Zz (l := [0, 8, 19]) ?_
   refine Zy 0 63183 [15, 10, 7] [true, true, true] [(15, (_, _)), (10, (_, _)), (7, (_, _))] rfl Y rfl rfl rfl rfl (w_buildSlice (vs := [_, _, _, _, _]) (cs := [_, _, _, _, _]) underlying28 sizeOf3 zeroValue3 Y rfl rfl rfl rfl rfl) ?hk_33 (fun _ _ h => h.elim) ?hl_33
   case hk_33 =>
    rintro _ _ ⟨gk, rfl, rfl⟩
    refine ⟨Zk (Zk (Zk (keep_nil))), ?_⟩
    (refine lin_v (D' := 63199) 4 (p_indexAddr_nat0 underlying28 sizeOf3 Y Y ?_) ?_; (focus (first | omega | decide | (simp; done))))
    refine Zj 63231 5 rfl isAgg3 Y (hv := by exact kind_at _ hp0) ?_
    refine Zz (l := [8, 19]) ?_
    refine Zy 206 63487 [5, 15, 10, 7] [true, true, true, false] [(5, (_, _)), (15, (_, _)), (10, (_, _))] rfl Y rfl rfl rfl rfl (Zu [_, _] Y call6 Y rfl (P1)) ?hk_34 (fun _ _ h => h.elim) ?hl_34
    case hk_34 =>
     rintro _ _ ⟨rfl, rfl⟩
     refine ⟨Zk (Zk (Zk (keep_nil))), ?_⟩
     refine Zz (l := [11, 19]) ?_
     refine Zy 1998 65535 [5, 15, 10] [true, true, false] [(5, (_, _)), (15, (_, _))] rfl Y rfl rfl rfl rfl (Zu [_, _] Y call6 Y rfl (P2)) ?hk_35 (fun _ _ h => h.elim) ?hl_35
     case hk_35 =>
      rintro _ _ ⟨rfl, rfl⟩
      refine ⟨Zk (Zk (keep_nil)), ?_⟩
      refine Zz (l := [16, 19]) ?_
      refine Zy 53198 131071 [5, 15] [true, false] [(5, (_, _))] rfl Y rfl rfl rfl rfl (Zu [_, _] Y call6 Y rfl (P4)) ?hk_36 (fun _ _ h => h.elim) ?hl_36
      case hk_36 =>
       rintro _ _ ⟨rfl, rfl⟩
       refine ⟨Zk (keep_nil), ?_⟩
       (refine lin_v (D' := 262143) 17 (p_add_nat Y Y ?_) ?_; (focus (omega)))
       refine Zi 524287 18 rfl (p_build (vs := [(0, .int .i64 ((2 + n0 : Nat) : Int)), (1, .int .i64 (n1 : Int)), (2, .int .i64 (n2 : Int)), (3, .int .i64 (n3 : Int)), (4, .int .i64 ((n3 + n4 : Nat) : Int))]) (cs := #[.int .i64 ((2 + n0 : Nat) : Int), .int .i64 (n1 : Int), .int .i64 (n2 : Int), .int .i64 (n3 : Int), .int .i64 ((n3 + n4 : Nat) : Int), .int .i64 0, .int .i64 0]) Y (run_build_struct (pl := #[(0, 1), (1, 1), (2, 1), (3, 1), (4, 1), (5, 1), (6, 1)]) zeroValue30 underlying30 (fun _ => by kernel_rfl) (by kernel_rfl))) ?_
       refine Yz 19 0 1048575 [5] [true] [(5, (_, _))] rfl Y rfl rfl rfl rfl (w_alloc zeroValue30 (cs := #[_, _, _, _, _, _, _]) rfl) ?_
       rintro _ _ ⟨bq, rfl, rfl⟩
       refine ⟨Zk (keep_nil), ?_⟩
       refine Yz 20 1048575 2097151 [5] [false] [] rfl Y rfl rfl rfl rfl (w_store_agg sizeOf30 Y Y (by (simp [Value.oneCell']; done)) Wu (by rfl) (by first | rfl | (simp; done)) Wb (by exact free_zero _)) ?_
       rintro _ _ ⟨rfl, rfl⟩
       refine ⟨keep_nil, ?_⟩
       refine lin_nil ?_
       refine Zn [14, 2, 3, 4, 6, 11, 12] ?_
       refine nx_cutB (e' := [(14, _)]) (H' := _) (by exact ⟨bq, trivial, rfl, rfl⟩)
      refine Zy 0 589823 [5, 15] [true, true] [(5, (_, _)), (15, (_, _))] rfl Y rfl rfl rfl rfl (w_alloc zeroValue30 (cs := #[_, _, _, _, _, _, _]) rfl) ?hk_40 (fun _ _ h => h.elim) ?hl_40
      case hk_40 =>
       rintro _ _ ⟨bq, rfl, rfl⟩
       refine ⟨Zk (Zk (keep_nil)), ?_⟩
       refine Yz 16 53198 655359 [5, 15] [true, false] [(5, (_, _))] rfl Y rfl rfl rfl rfl (Zu [_, _] Y call6 Y rfl (P4)) ?_
       rintro _ _ ⟨rfl, rfl⟩
       refine ⟨Zk (keep_nil), ?_⟩
       (refine lin_v (D' := 786431) 17 (p_add_nat Y Y ?_) ?_; (focus (omega)))
       refine Zi 1048575 18 rfl (p_build (vs := [(0, .int .i64 ((2 + n0 : Nat) : Int)), (1, .int .i64 (n1 : Int)), (2, .int .i64 (n2 : Int)), (3, .int .i64 (n3 : Int)), (4, .int .i64 ((n3 + n4 : Nat) : Int))]) (cs := #[.int .i64 ((2 + n0 : Nat) : Int), .int .i64 (n1 : Int), .int .i64 (n2 : Int), .int .i64 (n3 : Int), .int .i64 ((n3 + n4 : Nat) : Int), .int .i64 0, .int .i64 0]) Y (run_build_struct (pl := #[(0, 1), (1, 1), (2, 1), (3, 1), (4, 1), (5, 1), (6, 1)]) zeroValue30 underlying30 (fun _ => by kernel_rfl) (by kernel_rfl))) ?_
       refine Yz 20 1048575 2097151 [5] [false] [] rfl Y rfl rfl rfl rfl (w_store_agg sizeOf30 Y Y (by (simp [Value.oneCell']; done)) Wu (by rfl) (by first | rfl | (simp; done)) Wb (by exact free_zero _)) ?_
       rintro _ _ ⟨rfl, rfl⟩
       refine ⟨keep_nil, ?_⟩
       refine lin_nil ?_
       refine Zn [14, 2, 3, 4, 6, 11, 12] ?_
       refine nx_cutB (e' := [(14, _)]) (H' := _) (by exact ⟨bq, trivial, rfl, rfl⟩)
      exact each_nil
     refine Zy 0 587775 [5, 15, 10] [true, true, true] [(5, (_, _)), (15, (_, _)), (10, (_, _))] rfl Y rfl rfl rfl rfl (w_alloc zeroValue30 (cs := #[_, _, _, _, _, _, _]) rfl) ?hk_44 (fun _ _ h => h.elim) ?hl_44
     case hk_44 =>
      rintro _ _ ⟨bq, rfl, rfl⟩
      refine ⟨Zk (Zk (Zk (keep_nil))), ?_⟩
      refine Yz 11 1998 589823 [5, 15, 10] [true, true, false] [(5, (_, _)), (15, (_, _))] rfl Y rfl rfl rfl rfl (Zu [_, _] Y call6 Y rfl (P2)) ?_
      rintro _ _ ⟨rfl, rfl⟩
      refine ⟨Zk (Zk (keep_nil)), ?_⟩
      refine Yz 16 53198 655359 [5, 15] [true, false] [(5, (_, _))] rfl Y rfl rfl rfl rfl (Zu [_, _] Y call6 Y rfl (P4)) ?_
      rintro _ _ ⟨rfl, rfl⟩
      refine ⟨Zk (keep_nil), ?_⟩
      (refine lin_v (D' := 786431) 17 (p_add_nat Y Y ?_) ?_; (focus (omega)))
      refine Zi 1048575 18 rfl (p_build (vs := [(0, .int .i64 ((2 + n0 : Nat) : Int)), (1, .int .i64 (n1 : Int)), (2, .int .i64 (n2 : Int)), (3, .int .i64 (n3 : Int)), (4, .int .i64 ((n3 + n4 : Nat) : Int))]) (cs := #[.int .i64 ((2 + n0 : Nat) : Int), .int .i64 (n1 : Int), .int .i64 (n2 : Int), .int .i64 (n3 : Int), .int .i64 ((n3 + n4 : Nat) : Int), .int .i64 0, .int .i64 0]) Y (run_build_struct (pl := #[(0, 1), (1, 1), (2, 1), (3, 1), (4, 1), (5, 1), (6, 1)]) zeroValue30 underlying30 (fun _ => by kernel_rfl) (by kernel_rfl))) ?_
      refine Yz 20 1048575 2097151 [5] [false] [] rfl Y rfl rfl rfl rfl (w_store_agg sizeOf30 Y Y (by (simp [Value.oneCell']; done)) Wu (by rfl) (by first | rfl | (simp; done)) Wb (by exact free_zero _)) ?_
      rintro _ _ ⟨rfl, rfl⟩
      refine ⟨keep_nil, ?_⟩
      refine lin_nil ?_
      refine Zn [14, 2, 3, 4, 6, 11, 12] ?_
      refine nx_cutB (e' := [(14, _)]) (H' := _) (by exact ⟨bq, trivial, rfl, rfl⟩)
     exact each_nil
    refine Zy 0 587519 [5, 15, 10, 7] [true, true, true, true] [(5, (_, _)), (15, (_, _)), (10, (_, _)), (7, (_, _))] rfl Y rfl rfl rfl rfl (w_alloc zeroValue30 (cs := #[_, _, _, _, _, _, _]) rfl) ?hk_49 (fun _ _ h => h.elim) ?hl_49
    case hk_49 =>
     rintro _ _ ⟨bq, rfl, rfl⟩
     refine ⟨Zk (Zk (Zk (Zk (keep_nil)))), ?_⟩
     refine Yz 8 206 587775 [5, 15, 10, 7] [true, true, true, false] [(5, (_, _)), (15, (_, _)), (10, (_, _))] rfl Y rfl rfl rfl rfl (Zu [_, _] Y call6 Y rfl (P1)) ?_
     rintro _ _ ⟨rfl, rfl⟩
     refine ⟨Zk (Zk (Zk (keep_nil))), ?_⟩
     refine Yz 11 1998 589823 [5, 15, 10] [true, true, false] [(5, (_, _)), (15, (_, _))] rfl Y rfl rfl rfl rfl (Zu [_, _] Y call6 Y rfl (P2)) ?_
     rintro _ _ ⟨rfl, rfl⟩
     refine ⟨Zk (Zk (keep_nil)), ?_⟩
     refine Yz 16 53198 655359 [5, 15] [true, false] [(5, (_, _))] rfl Y rfl rfl rfl rfl (Zu [_, _] Y call6 Y rfl (P4)) ?_
     rintro _ _ ⟨rfl, rfl⟩
     refine ⟨Zk (keep_nil), ?_⟩
     (refine lin_v (D' := 786431) 17 (p_add_nat Y Y ?_) ?_; (focus (omega)))
     refine Zi 1048575 18 rfl (p_build (vs := [(0, .int .i64 ((2 + n0 : Nat) : Int)), (1, .int .i64 (n1 : Int)), (2, .int .i64 (n2 : Int)), (3, .int .i64 (n3 : Int)), (4, .int .i64 ((n3 + n4 : Nat) : Int))]) (cs := #[.int .i64 ((2 + n0 : Nat) : Int), .int .i64 (n1 : Int), .int .i64 (n2 : Int), .int .i64 (n3 : Int), .int .i64 ((n3 + n4 : Nat) : Int), .int .i64 0, .int .i64 0]) Y (run_build_struct (pl := #[(0, 1), (1, 1), (2, 1), (3, 1), (4, 1), (5, 1), (6, 1)]) zeroValue30 underlying30 (fun _ => by kernel_rfl) (by kernel_rfl))) ?_
     refine Yz 20 1048575 2097151 [5] [false] [] rfl Y rfl rfl rfl rfl (w_store_agg sizeOf30 Y Y (by (simp [Value.oneCell']; done)) Wu (by rfl) (by first | rfl | (simp; done)) Wb (by exact free_zero _)) ?_
     rintro _ _ ⟨rfl, rfl⟩
     refine ⟨keep_nil, ?_⟩
     refine lin_nil ?_
     refine Zn [14, 2, 3, 4, 6, 11, 12] ?_
     refine nx_cutB (e' := [(14, _)]) (H' := _) (by exact ⟨bq, trivial, rfl, rfl⟩)
    exact each_nil
   refine Zy 206 63438 [15, 10, 7] [true, true, false] [(15, (_, _)), (10, (_, _))] rfl Y rfl rfl rfl rfl (Zu [_, _] Y call6 Y rfl (P1)) ?hk_55 (fun _ _ h => h.elim) ?hl_55
   case hk_55 =>
    rintro _ _ ⟨rfl, rfl⟩
    refine ⟨Zk (Zk (keep_nil)), ?_⟩
    refine Zz (l := [0, 11, 19]) ?_
    refine Zy 0 63439 [15, 10] [true, true] [(15, (_, _)), (10, (_, _))] rfl Y rfl rfl rfl rfl (w_buildSlice (vs := [_, _, _, _, _]) (cs := [_, _, _, _, _]) underlying28 sizeOf3 zeroValue3 Y rfl rfl rfl rfl rfl) ?hk_56 (fun _ _ h => h.elim) ?hl_56
    case hk_56 =>
     rintro _ _ ⟨gk, rfl, rfl⟩
     refine ⟨Zk (Zk (keep_nil)), ?_⟩
     (refine lin_v (D' := 63455) 4 (p_indexAddr_nat0 underlying28 sizeOf3 Y Y ?_) ?_; (focus (first | omega | decide | (simp; done))))
     refine Zj 63487 5 rfl isAgg3 Y (hv := by exact kind_at _ hp0) ?_
     refine Zz (l := [11, 19]) ?_
     refine Zy 1998 65535 [5, 15, 10] [true, true, false] [(5, (_, _)), (15, (_, _))] rfl Y rfl rfl rfl rfl (Zu [_, _] Y call6 Y rfl (P2)) ?hk_57 (fun _ _ h => h.elim) ?hl_57
     case hk_57 =>
      rintro _ _ ⟨rfl, rfl⟩
      refine ⟨Zk (Zk (keep_nil)), ?_⟩
      refine Zz (l := [16, 19]) ?_
      refine Zy 53198 131071 [5, 15] [true, false] [(5, (_, _))] rfl Y rfl rfl rfl rfl (Zu [_, _] Y call6 Y rfl (P4)) ?hk_58 (fun _ _ h => h.elim) ?hl_58
      case hk_58 =>
       rintro _ _ ⟨rfl, rfl⟩
       refine ⟨Zk (keep_nil), ?_⟩
       (refine lin_v (D' := 262143) 17 (p_add_nat Y Y ?_) ?_; (focus (omega)))
       refine Zi 524287 18 rfl (p_build (vs := [(0, .int .i64 ((2 + n0 : Nat) : Int)), (1, .int .i64 (n1 : Int)), (2, .int .i64 (n2 : Int)), (3, .int .i64 (n3 : Int)), (4, .int .i64 ((n3 + n4 : Nat) : Int))]) (cs := #[.int .i64 ((2 + n0 : Nat) : Int), .int .i64 (n1 : Int), .int .i64 (n2 : Int), .int .i64 (n3 : Int), .int .i64 ((n3 + n4 : Nat) : Int), .int .i64 0, .int .i64 0]) Y (run_build_struct (pl := #[(0, 1), (1, 1), (2, 1), (3, 1), (4, 1), (5, 1), (6, 1)]) zeroValue30 underlying30 (fun _ => by kernel_rfl) (by kernel_rfl))) ?_
       refine Yz 19 0 1048575 [5] [true] [(5, (_, _))] rfl Y rfl rfl rfl rfl (w_alloc zeroValue30 (cs := #[_, _, _, _, _, _, _]) rfl) ?_
       rintro _ _ ⟨bq, rfl, rfl⟩
       refine ⟨Zk (keep_nil), ?_⟩
       refine Yz 20 1048575 2097151 [5] [false] [] rfl Y rfl rfl rfl rfl (w_store_agg sizeOf30 Y Y (by (simp [Value.oneCell']; done)) Wu (by rfl) (by first | rfl | (simp; done)) Wb (by exact free_zero _)) ?_
       rintro _ _ ⟨rfl, rfl⟩
       refine ⟨keep_nil, ?_⟩
       refine lin_nil ?_
       refine Zn [14, 2, 3, 4, 6, 11, 12] ?_
       refine nx_cutB (e' := [(14, _)]) (H' := _) (by exact ⟨bq, trivial, rfl, rfl⟩)
      refine Zy 0 589823 [5, 15] [true, true] [(5, (_, _)), (15, (_, _))] rfl Y rfl rfl rfl rfl (w_alloc zeroValue30 (cs := #[_, _, _, _, _, _, _]) rfl) ?hk_62 (fun _ _ h => h.elim) ?hl_62
      case hk_62 =>
       rintro _ _ ⟨bq, rfl, rfl⟩
       refine ⟨Zk (Zk (keep_nil)), ?_⟩
       refine Yz 16 53198 655359 [5, 15] [true, false] [(5, (_, _))] rfl Y rfl rfl rfl rfl (Zu [_, _] Y call6 Y rfl (P4)) ?_
       rintro _ _ ⟨rfl, rfl⟩
       refine ⟨Zk (keep_nil), ?_⟩
       (refine lin_v (D' := 786431) 17 (p_add_nat Y Y ?_) ?_; (focus (omega)))
       refine Zi 1048575 18 rfl (p_build (vs := [(0, .int .i64 ((2 + n0 : Nat) : Int)), (1, .int .i64 (n1 : Int)), (2, .int .i64 (n2 : Int)), (3, .int .i64 (n3 : Int)), (4, .int .i64 ((n3 + n4 : Nat) : Int))]) (cs := #[.int .i64 ((2 + n0 : Nat) : Int), .int .i64 (n1 : Int), .int .i64 (n2 : Int), .int .i64 (n3 : Int), .int .i64 ((n3 + n4 : Nat) : Int), .int .i64 0, .int .i64 0]) Y (run_build_struct (pl := #[(0, 1), (1, 1), (2, 1), (3, 1), (4, 1), (5, 1), (6, 1)]) zeroValue30 underlying30 (fun _ => by kernel_rfl) (by kernel_rfl))) ?_
       refine Yz 20 1048575 2097151 [5] [false] [] rfl Y rfl rfl rfl rfl (w_store_agg sizeOf30 Y Y (by (simp [Value.oneCell']; done)) Wu (by rfl) (by first | rfl | (simp; done)) Wb (by exact free_zero _)) ?_
       rintro _ _ ⟨rfl, rfl⟩
       refine ⟨keep_nil, ?_⟩
       refine lin_nil ?_
       refine Zn [14, 2, 3, 4, 6, 11, 12] ?_
       refine nx_cutB (e' := [(14, _)]) (H' := _) (by exact ⟨bq, trivial, rfl, rfl⟩)
      exact each_nil
     refine Zy 0 587775 [5, 15, 10] [true, true, true] [(5, (_, _)), (15, (_, _)), (10, (_, _))] rfl Y rfl rfl rfl rfl (w_alloc zeroValue30 (cs := #[_, _, _, _, _, _, _]) rfl) ?hk_66 (fun _ _ h => h.elim) ?hl_66
     case hk_66 =>
      rintro _ _ ⟨bq, rfl, rfl⟩
      refine ⟨Zk (Zk (Zk (keep_nil))), ?_⟩
      refine Yz 11 1998 589823 [5, 15, 10] [true, true, false] [(5, (_, _)), (15, (_, _))] rfl Y rfl rfl rfl rfl (Zu [_, _] Y call6 Y rfl (P2)) ?_
      rintro _ _ ⟨rfl, rfl⟩
      refine ⟨Zk (Zk (keep_nil)), ?_⟩
      refine Yz 16 53198 655359 [5, 15] [true, false] [(5, (_, _))] rfl Y rfl rfl rfl rfl (Zu [_, _] Y call6 Y rfl (P4)) ?_
      rintro _ _ ⟨rfl, rfl⟩
      refine ⟨Zk (keep_nil), ?_⟩
      (refine lin_v (D' := 786431) 17 (p_add_nat Y Y ?_) ?_; (focus (omega)))
      refine Zi 1048575 18 rfl (p_build (vs := [(0, .int .i64 ((2 + n0 : Nat) : Int)), (1, .int .i64 (n1 : Int)), (2, .int .i64 (n2 : Int)), (3, .int .i64 (n3 : Int)), (4, .int .i64 ((n3 + n4 : Nat) : Int))]) (cs := #[.int .i64 ((2 + n0 : Nat) : Int), .int .i64 (n1 : Int), .int .i64 (n2 : Int), .int .i64 (n3 : Int), .int .i64 ((n3 + n4 : Nat) : Int), .int .i64 0, .int .i64 0]) Y (run_build_struct (pl := #[(0, 1), (1, 1), (2, 1), (3, 1), (4, 1), (5, 1), (6, 1)]) zeroValue30 underlying30 (fun _ => by kernel_rfl) (by kernel_rfl))) ?_
      refine Yz 20 1048575 2097151 [5] [false] [] rfl Y rfl rfl rfl rfl (w_store_agg sizeOf30 Y Y (by (simp [Value.oneCell']; done)) Wu (by rfl) (by first | rfl | (simp; done)) Wb (by exact free_zero _)) ?_
      rintro _ _ ⟨rfl, rfl⟩
      refine ⟨keep_nil, ?_⟩
      refine lin_nil ?_
      refine Zn [14, 2, 3, 4, 6, 11, 12] ?_
      refine nx_cutB (e' := [(14, _)]) (H' := _) (by exact ⟨bq, trivial, rfl, rfl⟩)
     exact each_nil
    refine Zy 1998 65486 [15, 10] [true, false] [(15, (_, _))] rfl Y rfl rfl rfl rfl (Zu [_, _] Y call6 Y rfl (P2)) ?hk_71 (fun _ _ h => h.elim) ?hl_71
    case hk_71 =>
     rintro _ _ ⟨rfl, rfl⟩
     refine ⟨Zk (keep_nil), ?_⟩
     refine Zz (l := [0, 16, 19]) ?_
     refine Zy 0 65487 [15] [true] [(15, (_, _))] rfl Y rfl rfl rfl rfl (w_buildSlice (vs := [_, _, _, _, _]) (cs := [_, _, _, _, _]) underlying28 sizeOf3 zeroValue3 Y rfl rfl rfl rfl rfl) ?hk_72 (fun _ _ h => h.elim) ?hl_72
     case hk_72 =>
      rintro _ _ ⟨gk, rfl, rfl⟩
      refine ⟨Zk (keep_nil), ?_⟩
      (refine lin_v (D' := 65503) 4 (p_indexAddr_nat0 underlying28 sizeOf3 Y Y ?_) ?_; (focus (first | omega | decide | (simp; done))))
      refine Zj 65535 5 rfl isAgg3 Y (hv := by exact kind_at _ hp0) ?_
      refine Zz (l := [16, 19]) ?_
      refine Zy 53198 131071 [5, 15] [true, false] [(5, (_, _))] rfl Y rfl rfl rfl rfl (Zu [_, _] Y call6 Y rfl (P4)) ?hk_73 (fun _ _ h => h.elim) ?hl_73
      case hk_73 =>
       rintro _ _ ⟨rfl, rfl⟩
       refine ⟨Zk (keep_nil), ?_⟩
       (refine lin_v (D' := 262143) 17 (p_add_nat Y Y ?_) ?_; (focus (omega)))
       refine Zi 524287 18 rfl (p_build (vs := [(0, .int .i64 ((2 + n0 : Nat) : Int)), (1, .int .i64 (n1 : Int)), (2, .int .i64 (n2 : Int)), (3, .int .i64 (n3 : Int)), (4, .int .i64 ((n3 + n4 : Nat) : Int))]) (cs := #[.int .i64 ((2 + n0 : Nat) : Int), .int .i64 (n1 : Int), .int .i64 (n2 : Int), .int .i64 (n3 : Int), .int .i64 ((n3 + n4 : Nat) : Int), .int .i64 0, .int .i64 0]) Y (run_build_struct (pl := #[(0, 1), (1, 1), (2, 1), (3, 1), (4, 1), (5, 1), (6, 1)]) zeroValue30 underlying30 (fun _ => by kernel_rfl) (by kernel_rfl))) ?_
       refine Yz 19 0 1048575 [5] [true] [(5, (_, _))] rfl Y rfl rfl rfl rfl (w_alloc zeroValue30 (cs := #[_, _, _, _, _, _, _]) rfl) ?_
       rintro _ _ ⟨bq, rfl, rfl⟩
       refine ⟨Zk (keep_nil), ?_⟩
       refine Yz 20 1048575 2097151 [5] [false] [] rfl Y rfl rfl rfl rfl (w_store_agg sizeOf30 Y Y (by (simp [Value.oneCell']; done)) Wu (by rfl) (by first | rfl | (simp; done)) Wb (by exact free_zero _)) ?_
       rintro _ _ ⟨rfl, rfl⟩
       refine ⟨keep_nil, ?_⟩
       refine lin_nil ?_
       refine Zn [14, 2, 3, 4, 6, 11, 12] ?_
       refine nx_cutB (e' := [(14, _)]) (H' := _) (by exact ⟨bq, trivial, rfl, rfl⟩)
      refine Zy 0 589823 [5, 15] [true, true] [(5, (_, _)), (15, (_, _))] rfl Y rfl rfl rfl rfl (w_alloc zeroValue30 (cs := #[_, _, _, _, _, _, _]) rfl) ?hk_77 (fun _ _ h => h.elim) ?hl_77
      case hk_77 =>
       rintro _ _ ⟨bq, rfl, rfl⟩
       refine ⟨Zk (Zk (keep_nil)), ?_⟩
       refine Yz 16 53198 655359 [5, 15] [true, false] [(5, (_, _))] rfl Y rfl rfl rfl rfl (Zu [_, _] Y call6 Y rfl (P4)) ?_
       rintro _ _ ⟨rfl, rfl⟩
       refine ⟨Zk (keep_nil), ?_⟩
       (refine lin_v (D' := 786431) 17 (p_add_nat Y Y ?_) ?_; (focus (omega)))
       refine Zi 1048575 18 rfl (p_build (vs := [(0, .int .i64 ((2 + n0 : Nat) : Int)), (1, .int .i64 (n1 : Int)), (2, .int .i64 (n2 : Int)), (3, .int .i64 (n3 : Int)), (4, .int .i64 ((n3 + n4 : Nat) : Int))]) (cs := #[.int .i64 ((2 + n0 : Nat) : Int), .int .i64 (n1 : Int), .int .i64 (n2 : Int), .int .i64 (n3 : Int), .int .i64 ((n3 + n4 : Nat) : Int), .int .i64 0, .int .i64 0]) Y (run_build_struct (pl := #[(0, 1), (1, 1), (2, 1), (3, 1), (4, 1), (5, 1), (6, 1)]) zeroValue30 underlying30 (fun _ => by kernel_rfl) (by kernel_rfl))) ?_
       refine Yz 20 1048575 2097151 [5] [false] [] rfl Y rfl rfl rfl rfl (w_store_agg sizeOf30 Y Y (by (simp [Value.oneCell']; done)) Wu (by rfl) (by first | rfl | (simp; done)) Wb (by exact free_zero _)) ?_
       rintro _ _ ⟨rfl, rfl⟩
       refine ⟨keep_nil, ?_⟩
       refine lin_nil ?_
       refine Zn [14, 2, 3, 4, 6, 11, 12] ?_
       refine nx_cutB (e' := [(14, _)]) (H' := _) (by exact ⟨bq, trivial, rfl, rfl⟩)
      exact each_nil
     refine Zy 53198 131022 [15] [false] [] rfl Y rfl rfl rfl rfl (Zu [_, _] Y call6 Y rfl (P4)) ?hk_81 (fun _ _ h => h.elim) ?hl_81
     case hk_81 =>
      rintro _ _ ⟨rfl, rfl⟩
      refine ⟨keep_nil, ?_⟩
      (refine lin_v (D' := 262094) 17 (p_add_nat Y Y ?_) ?_; (focus (omega)))
      refine Zz (l := [0, 19]) ?_
      refine Zy 0 262095 [] [] [] rfl Y rfl rfl rfl rfl (w_buildSlice (vs := [_, _, _, _, _]) (cs := [_, _, _, _, _]) underlying28 sizeOf3 zeroValue3 Y rfl rfl rfl rfl rfl) ?hk_82 (fun _ _ h => h.elim) ?hl_82
      case hk_82 =>
       rintro _ _ ⟨gk, rfl, rfl⟩
       refine ⟨keep_nil, ?_⟩
       (refine lin_v (D' := 262111) 4 (p_indexAddr_nat0 underlying28 sizeOf3 Y Y ?_) ?_; (focus (first | omega | decide | (simp; done))))
       refine Zj 262143 5 rfl isAgg3 Y (hv := by exact kind_at _ hp0) ?_
       refine Zi 524287 18 rfl (p_build (vs := [(0, .int .i64 ((2 + n0 : Nat) : Int)), (1, .int .i64 (n1 : Int)), (2, .int .i64 (n2 : Int)), (3, .int .i64 (n3 : Int)), (4, .int .i64 ((n3 + n4 : Nat) : Int))]) (cs := #[.int .i64 ((2 + n0 : Nat) : Int), .int .i64 (n1 : Int), .int .i64 (n2 : Int), .int .i64 (n3 : Int), .int .i64 ((n3 + n4 : Nat) : Int), .int .i64 0, .int .i64 0]) Y (run_build_struct (pl := #[(0, 1), (1, 1), (2, 1), (3, 1), (4, 1), (5, 1), (6, 1)]) zeroValue30 underlying30 (fun _ => by kernel_rfl) (by kernel_rfl))) ?_
       refine Yz 19 0 1048575 [5] [true] [(5, (_, _))] rfl Y rfl rfl rfl rfl (w_alloc zeroValue30 (cs := #[_, _, _, _, _, _, _]) rfl) ?_
       rintro _ _ ⟨bq, rfl, rfl⟩
       refine ⟨Zk (keep_nil), ?_⟩
       refine Yz 20 1048575 2097151 [5] [false] [] rfl Y rfl rfl rfl rfl (w_store_agg sizeOf30 Y Y (by (simp [Value.oneCell']; done)) Wu (by rfl) (by first | rfl | (simp; done)) Wb (by exact free_zero _)) ?_
       rintro _ _ ⟨rfl, rfl⟩
       refine ⟨keep_nil, ?_⟩
       refine lin_nil ?_
       refine Zn [14, 2, 3, 4, 6, 11, 12] ?_
       refine nx_cutB (e' := [(14, _)]) (H' := _) (by exact ⟨bq, trivial, rfl, rfl⟩)
      refine Zy 0 786382 [] [] [] rfl Y rfl rfl rfl rfl (w_alloc zeroValue30 (cs := #[_, _, _, _, _, _, _]) rfl) ?hk_86 (fun _ _ h => h.elim) ?hl_86
      case hk_86 =>
       rintro _ _ ⟨bq, rfl, rfl⟩
       refine ⟨keep_nil, ?_⟩
       refine Yz 0 0 786383 [] [] [] rfl Y rfl rfl rfl rfl (w_buildSlice (vs := [_, _, _, _, _]) (cs := [_, _, _, _, _]) underlying28 sizeOf3 zeroValue3 Y rfl rfl rfl rfl rfl) ?_
       rintro _ _ ⟨gk, rfl, rfl⟩
       refine ⟨keep_nil, ?_⟩
       (refine lin_v (D' := 786399) 4 (p_indexAddr_nat0 underlying28 sizeOf3 Y Y ?_) ?_; (focus (first | omega | decide | (simp; done))))
       refine Zj 786431 5 rfl isAgg3 Y (hv := by exact kind_at _ hp0) ?_
       refine Zi 1048575 18 rfl (p_build (vs := [(0, .int .i64 ((2 + n0 : Nat) : Int)), (1, .int .i64 (n1 : Int)), (2, .int .i64 (n2 : Int)), (3, .int .i64 (n3 : Int)), (4, .int .i64 ((n3 + n4 : Nat) : Int))]) (cs := #[.int .i64 ((2 + n0 : Nat) : Int), .int .i64 (n1 : Int), .int .i64 (n2 : Int), .int .i64 (n3 : Int), .int .i64 ((n3 + n4 : Nat) : Int), .int .i64 0, .int .i64 0]) Y (run_build_struct (pl := #[(0, 1), (1, 1), (2, 1), (3, 1), (4, 1), (5, 1), (6, 1)]) zeroValue30 underlying30 (fun _ => by kernel_rfl) (by kernel_rfl))) ?_
       refine Yz 20 1048575 2097151 [5] [false] [] rfl Y rfl rfl rfl rfl (w_store_agg sizeOf30 Y Y (by (simp [Value.oneCell']; done)) Wu (by rfl) (by first | rfl | (simp; done)) Wb (by exact free_zero _)) ?_
       rintro _ _ ⟨rfl, rfl⟩
       refine ⟨keep_nil, ?_⟩
       refine lin_nil ?_
       refine Zn [14, 2, 3, 4, 6, 11, 12] ?_
       refine nx_cutB (e' := [(14, _)]) (H' := _) (by exact ⟨bq, trivial, rfl, rfl⟩)
      exact each_nil
     refine Zy 0 589774 [15] [true] [(15, (_, _))] rfl Y rfl rfl rfl rfl (w_alloc zeroValue30 (cs := #[_, _, _, _, _, _, _]) rfl) ?hk_90 (fun _ _ h => h.elim) ?hl_90
     case hk_90 =>
      rintro _ _ ⟨bq, rfl, rfl⟩
      refine ⟨Zk (keep_nil), ?_⟩
      refine Zz (l := [0, 16]) ?_
      refine Zy 0 589775 [15] [true] [(15, (_, _))] rfl Y rfl rfl rfl rfl (w_buildSlice (vs := [_, _, _, _, _]) (cs := [_, _, _, _, _]) underlying28 sizeOf3 zeroValue3 Y rfl rfl rfl rfl rfl) ?hk_91 (fun _ _ h => h.elim) ?hl_91
      case hk_91 =>
       rintro _ _ ⟨gk, rfl, rfl⟩
       refine ⟨Zk (keep_nil), ?_⟩
       (refine lin_v (D' := 589791) 4 (p_indexAddr_nat0 underlying28 sizeOf3 Y Y ?_) ?_; (focus (first | omega | decide | (simp; done))))
       refine Zj 589823 5 rfl isAgg3 Y (hv := by exact kind_at _ hp0) ?_
       refine Yz 16 53198 655359 [5, 15] [true, false] [(5, (_, _))] rfl Y rfl rfl rfl rfl (Zu [_, _] Y call6 Y rfl (P4)) ?_
       rintro _ _ ⟨rfl, rfl⟩
       refine ⟨Zk (keep_nil), ?_⟩
       (refine lin_v (D' := 786431) 17 (p_add_nat Y Y ?_) ?_; (focus (omega)))
       refine Zi 1048575 18 rfl (p_build (vs := [(0, .int .i64 ((2 + n0 : Nat) : Int)), (1, .int .i64 (n1 : Int)), (2, .int .i64 (n2 : Int)), (3, .int .i64 (n3 : Int)), (4, .int .i64 ((n3 + n4 : Nat) : Int))]) (cs := #[.int .i64 ((2 + n0 : Nat) : Int), .int .i64 (n1 : Int), .int .i64 (n2 : Int), .int .i64 (n3 : Int), .int .i64 ((n3 + n4 : Nat) : Int), .int .i64 0, .int .i64 0]) Y (run_build_struct (pl := #[(0, 1), (1, 1), (2, 1), (3, 1), (4, 1), (5, 1), (6, 1)]) zeroValue30 underlying30 (fun _ => by kernel_rfl) (by kernel_rfl))) ?_
       refine Yz 20 1048575 2097151 [5] [false] [] rfl Y rfl rfl rfl rfl (w_store_agg sizeOf30 Y Y (by (simp [Value.oneCell']; done)) Wu (by rfl) (by first | rfl | (simp; done)) Wb (by exact free_zero _)) ?_
       rintro _ _ ⟨rfl, rfl⟩
       refine ⟨keep_nil, ?_⟩
       refine lin_nil ?_
       refine Zn [14, 2, 3, 4, 6, 11, 12] ?_
       refine nx_cutB (e' := [(14, _)]) (H' := _) (by exact ⟨bq, trivial, rfl, rfl⟩)
      refine Zy 53198 655310 [15] [false] [] rfl Y rfl rfl rfl rfl (Zu [_, _] Y call6 Y rfl (P4)) ?hk_95 (fun _ _ h => h.elim) ?hl_95
      case hk_95 =>
       rintro _ _ ⟨rfl, rfl⟩
       refine ⟨keep_nil, ?_⟩
       (refine lin_v (D' := 786382) 17 (p_add_nat Y Y ?_) ?_; (focus (omega)))
       refine Yz 0 0 786383 [] [] [] rfl Y rfl rfl rfl rfl (w_buildSlice (vs := [_, _, _, _, _]) (cs := [_, _, _, _, _]) underlying28 sizeOf3 zeroValue3 Y rfl rfl rfl rfl rfl) ?_
       rintro _ _ ⟨gk, rfl, rfl⟩
       refine ⟨keep_nil, ?_⟩
       (refine lin_v (D' := 786399) 4 (p_indexAddr_nat0 underlying28 sizeOf3 Y Y ?_) ?_; (focus (first | omega | decide | (simp; done))))
       refine Zj 786431 5 rfl isAgg3 Y (hv := by exact kind_at _ hp0) ?_
       refine Zi 1048575 18 rfl (p_build (vs := [(0, .int .i64 ((2 + n0 : Nat) : Int)), (1, .int .i64 (n1 : Int)), (2, .int .i64 (n2 : Int)), (3, .int .i64 (n3 : Int)), (4, .int .i64 ((n3 + n4 : Nat) : Int))]) (cs := #[.int .i64 ((2 + n0 : Nat) : Int), .int .i64 (n1 : Int), .int .i64 (n2 : Int), .int .i64 (n3 : Int), .int .i64 ((n3 + n4 : Nat) : Int), .int .i64 0, .int .i64 0]) Y (run_build_struct (pl := #[(0, 1), (1, 1), (2, 1), (3, 1), (4, 1), (5, 1), (6, 1)]) zeroValue30 underlying30 (fun _ => by kernel_rfl) (by kernel_rfl))) ?_
       refine Yz 20 1048575 2097151 [5] [false] [] rfl Y rfl rfl rfl rfl (w_store_agg sizeOf30 Y Y (by (simp [Value.oneCell']; done)) Wu (by rfl) (by first | rfl | (simp; done)) Wb (by exact free_zero _)) ?_
       rintro _ _ ⟨rfl, rfl⟩
       refine ⟨keep_nil, ?_⟩
       refine lin_nil ?_
       refine Zn [14, 2, 3, 4, 6, 11, 12] ?_
       refine nx_cutB (e' := [(14, _)]) (H' := _) (by exact ⟨bq, trivial, rfl, rfl⟩)
      exact each_nil
     exact each_nil
    refine Zy 0 587726 [15, 10] [true, true] [(15, (_, _)), (10, (_, _))] rfl Y rfl rfl rfl rfl (w_alloc zeroValue30 (cs := #[_, _, _, _, _, _, _]) rfl) ?hk_99 (fun _ _ h => h.elim) ?hl_99
    case hk_99 =>
     rintro _ _ ⟨bq, rfl, rfl⟩
     refine ⟨Zk (Zk (keep_nil)), ?_⟩
     refine Zz (l := [0, 11]) ?_
     refine Zy 0 587727 [15, 10] [true, true] [(15, (_, _)), (10, (_, _))] rfl Y rfl rfl rfl rfl (w_buildSlice (vs := [_, _, _, _, _]) (cs := [_, _, _, _, _]) underlying28 sizeOf3 zeroValue3 Y rfl rfl rfl rfl rfl) ?hk_100 (fun _ _ h => h.elim) ?hl_100
     case hk_100 =>
      rintro _ _ ⟨gk, rfl, rfl⟩
      refine ⟨Zk (Zk (keep_nil)), ?_⟩
      (refine lin_v (D' := 587743) 4 (p_indexAddr_nat0 underlying28 sizeOf3 Y Y ?_) ?_; (focus (first | omega | decide | (simp; done))))
      refine Zj 587775 5 rfl isAgg3 Y (hv := by exact kind_at _ hp0) ?_
      refine Yz 11 1998 589823 [5, 15, 10] [true, true, false] [(5, (_, _)), (15, (_, _))] rfl Y rfl rfl rfl rfl (Zu [_, _] Y call6 Y rfl (P2)) ?_
      rintro _ _ ⟨rfl, rfl⟩
      refine ⟨Zk (Zk (keep_nil)), ?_⟩
      refine Yz 16 53198 655359 [5, 15] [true, false] [(5, (_, _))] rfl Y rfl rfl rfl rfl (Zu [_, _] Y call6 Y rfl (P4)) ?_
      rintro _ _ ⟨rfl, rfl⟩
      refine ⟨Zk (keep_nil), ?_⟩
      (refine lin_v (D' := 786431) 17 (p_add_nat Y Y ?_) ?_; (focus (omega)))
      refine Zi 1048575 18 rfl (p_build (vs := [(0, .int .i64 ((2 + n0 : Nat) : Int)), (1, .int .i64 (n1 : Int)), (2, .int .i64 (n2 : Int)), (3, .int .i64 (n3 : Int)), (4, .int .i64 ((n3 + n4 : Nat) : Int))]) (cs := #[.int .i64 ((2 + n0 : Nat) : Int), .int .i64 (n1 : Int), .int .i64 (n2 : Int), .int .i64 (n3 : Int), .int .i64 ((n3 + n4 : Nat) : Int), .int .i64 0, .int .i64 0]) Y (run_build_struct (pl := #[(0, 1), (1, 1), (2, 1), (3, 1), (4, 1), (5, 1), (6, 1)]) zeroValue30 underlying30 (fun _ => by kernel_rfl) (by kernel_rfl))) ?_
      refine Yz 20 1048575 2097151 [5] [false] [] rfl Y rfl rfl rfl rfl (w_store_agg sizeOf30 Y Y (by (simp [Value.oneCell']; done)) Wu (by rfl) (by first | rfl | (simp; done)) Wb (by exact free_zero _)) ?_
      rintro _ _ ⟨rfl, rfl⟩
      refine ⟨keep_nil, ?_⟩
      refine lin_nil ?_
      refine Zn [14, 2, 3, 4, 6, 11, 12] ?_
      refine nx_cutB (e' := [(14, _)]) (H' := _) (by exact ⟨bq, trivial, rfl, rfl⟩)
     refine Zy 1998 589774 [15, 10] [true, false] [(15, (_, _))] rfl Y rfl rfl rfl rfl (Zu [_, _] Y call6 Y rfl (P2)) ?hk_105 (fun _ _ h => h.elim) ?hl_105
     case hk_105 =>
      rintro _ _ ⟨rfl, rfl⟩
      refine ⟨Zk (keep_nil), ?_⟩
      refine Zz (l := [0, 16]) ?_
      refine Zy 0 589775 [15] [true] [(15, (_, _))] rfl Y rfl rfl rfl rfl (w_buildSlice (vs := [_, _, _, _, _]) (cs := [_, _, _, _, _]) underlying28 sizeOf3 zeroValue3 Y rfl rfl rfl rfl rfl) ?hk_106 (fun _ _ h => h.elim) ?hl_106
      case hk_106 =>
       rintro _ _ ⟨gk, rfl, rfl⟩
       refine ⟨Zk (keep_nil), ?_⟩
       (refine lin_v (D' := 589791) 4 (p_indexAddr_nat0 underlying28 sizeOf3 Y Y ?_) ?_; (focus (first | omega | decide | (simp; done))))
       refine Zj 589823 5 rfl isAgg3 Y (hv := by exact kind_at _ hp0) ?_
       refine Yz 16 53198 655359 [5, 15] [true, false] [(5, (_, _))] rfl Y rfl rfl rfl rfl (Zu [_, _] Y call6 Y rfl (P4)) ?_
       rintro _ _ ⟨rfl, rfl⟩
       refine ⟨Zk (keep_nil), ?_⟩
       (refine lin_v (D' := 786431) 17 (p_add_nat Y Y ?_) ?_; (focus (omega)))
       refine Zi 1048575 18 rfl (p_build (vs := [(0, .int .i64 ((2 + n0 : Nat) : Int)), (1, .int .i64 (n1 : Int)), (2, .int .i64 (n2 : Int)), (3, .int .i64 (n3 : Int)), (4, .int .i64 ((n3 + n4 : Nat) : Int))]) (cs := #[.int .i64 ((2 + n0 : Nat) : Int), .int .i64 (n1 : Int), .int .i64 (n2 : Int), .int .i64 (n3 : Int), .int .i64 ((n3 + n4 : Nat) : Int), .int .i64 0, .int .i64 0]) Y (run_build_struct (pl := #[(0, 1), (1, 1), (2, 1), (3, 1), (4, 1), (5, 1), (6, 1)]) zeroValue30 underlying30 (fun _ => by kernel_rfl) (by kernel_rfl))) ?_
       refine Yz 20 1048575 2097151 [5] [false] [] rfl Y rfl rfl rfl rfl (w_store_agg sizeOf30 Y Y (by (simp [Value.oneCell']; done)) Wu (by rfl) (by first | rfl | (simp; done)) Wb (by exact free_zero _)) ?_
       rintro _ _ ⟨rfl, rfl⟩
       refine ⟨keep_nil, ?_⟩
       refine lin_nil ?_
       refine Zn [14, 2, 3, 4, 6, 11, 12] ?_
       refine nx_cutB (e' := [(14, _)]) (H' := _) (by exact ⟨bq, trivial, rfl, rfl⟩)
      refine Zy 53198 655310 [15] [false] [] rfl Y rfl rfl rfl rfl (Zu [_, _] Y call6 Y rfl (P4)) ?hk_110 (fun _ _ h => h.elim) ?hl_110
      case hk_110 =>
       rintro _ _ ⟨rfl, rfl⟩
       refine ⟨keep_nil, ?_⟩
       (refine lin_v (D' := 786382) 17 (p_add_nat Y Y ?_) ?_; (focus (omega)))
       refine Yz 0 0 786383 [] [] [] rfl Y rfl rfl rfl rfl (w_buildSlice (vs := [_, _, _, _, _]) (cs := [_, _, _, _, _]) underlying28 sizeOf3 zeroValue3 Y rfl rfl rfl rfl rfl) ?_
       rintro _ _ ⟨gk, rfl, rfl⟩
       refine ⟨keep_nil, ?_⟩
       (refine lin_v (D' := 786399) 4 (p_indexAddr_nat0 underlying28 sizeOf3 Y Y ?_) ?_; (focus (first | omega | decide | (simp; done))))
       refine Zj 786431 5 rfl isAgg3 Y (hv := by exact kind_at _ hp0) ?_
       refine Zi 1048575 18 rfl (p_build (vs := [(0, .int .i64 ((2 + n0 : Nat) : Int)), (1, .int .i64 (n1 : Int)), (2, .int .i64 (n2 : Int)), (3, .int .i64 (n3 : Int)), (4, .int .i64 ((n3 + n4 : Nat) : Int))]) (cs := #[.int .i64 ((2 + n0 : Nat) : Int), .int .i64 (n1 : Int), .int .i64 (n2 : Int), .int .i64 (n3 : Int), .int .i64 ((n3 + n4 : Nat) : Int), .int .i64 0, .int .i64 0]) Y (run_build_struct (pl := #[(0, 1), (1, 1), (2, 1), (3, 1), (4, 1), (5, 1), (6, 1)]) zeroValue30 underlying30 (fun _ => by kernel_rfl) (by kernel_rfl))) ?_
       refine Yz 20 1048575 2097151 [5] [false] [] rfl Y rfl rfl rfl rfl (w_store_agg sizeOf30 Y Y (by (simp [Value.oneCell']; done)) Wu (by rfl) (by first | rfl | (simp; done)) Wb (by exact free_zero _)) ?_
       rintro _ _ ⟨rfl, rfl⟩
       refine ⟨keep_nil, ?_⟩
       refine lin_nil ?_
       refine Zn [14, 2, 3, 4, 6, 11, 12] ?_
       refine nx_cutB (e' := [(14, _)]) (H' := _) (by exact ⟨bq, trivial, rfl, rfl⟩)
      exact each_nil
     exact each_nil
    exact each_nil
   refine Zy 0 587470 [15, 10, 7] [true, true, true] [(15, (_, _)), (10, (_, _)), (7, (_, _))] rfl Y rfl rfl rfl rfl (w_alloc zeroValue30 (cs := #[_, _, _, _, _, _, _]) rfl) ?hk_114 (fun _ _ h => h.elim) ?hl_114
   case hk_114 =>
    rintro _ _ ⟨bq, rfl, rfl⟩
    refine ⟨Zk (Zk (Zk (keep_nil))), ?_⟩
    refine Zz (l := [0, 8]) ?_
    refine Zy 0 587471 [15, 10, 7] [true, true, true] [(15, (_, _)), (10, (_, _)), (7, (_, _))] rfl Y rfl rfl rfl rfl (w_buildSlice (vs := [_, _, _, _, _]) (cs := [_, _, _, _, _]) underlying28 sizeOf3 zeroValue3 Y rfl rfl rfl rfl rfl) ?hk_115 (fun _ _ h => h.elim) ?hl_115
    case hk_115 =>
     rintro _ _ ⟨gk, rfl, rfl⟩
     refine ⟨Zk (Zk (Zk (keep_nil))), ?_⟩
     (refine lin_v (D' := 587487) 4 (p_indexAddr_nat0 underlying28 sizeOf3 Y Y ?_) ?_; (focus (first | omega | decide | (simp; done))))
     refine Zj 587519 5 rfl isAgg3 Y (hv := by exact kind_at _ hp0) ?_
     refine Yz 8 206 587775 [5, 15, 10, 7] [true, true, true, false] [(5, (_, _)), (15, (_, _)), (10, (_, _))] rfl Y rfl rfl rfl rfl (Zu [_, _] Y call6 Y rfl (P1)) ?_
     rintro _ _ ⟨rfl, rfl⟩
     refine ⟨Zk (Zk (Zk (keep_nil))), ?_⟩
     refine Yz 11 1998 589823 [5, 15, 10] [true, true, false] [(5, (_, _)), (15, (_, _))] rfl Y rfl rfl rfl rfl (Zu [_, _] Y call6 Y rfl (P2)) ?_
     rintro _ _ ⟨rfl, rfl⟩
     refine ⟨Zk (Zk (keep_nil)), ?_⟩
     refine Yz 16 53198 655359 [5, 15] [true, false] [(5, (_, _))] rfl Y rfl rfl rfl rfl (Zu [_, _] Y call6 Y rfl (P4)) ?_
     rintro _ _ ⟨rfl, rfl⟩
     refine ⟨Zk (keep_nil), ?_⟩
     (refine lin_v (D' := 786431) 17 (p_add_nat Y Y ?_) ?_; (focus (omega)))
     refine Zi 1048575 18 rfl (p_build (vs := [(0, .int .i64 ((2 + n0 : Nat) : Int)), (1, .int .i64 (n1 : Int)), (2, .int .i64 (n2 : Int)), (3, .int .i64 (n3 : Int)), (4, .int .i64 ((n3 + n4 : Nat) : Int))]) (cs := #[.int .i64 ((2 + n0 : Nat) : Int), .int .i64 (n1 : Int), .int .i64 (n2 : Int), .int .i64 (n3 : Int), .int .i64 ((n3 + n4 : Nat) : Int), .int .i64 0, .int .i64 0]) Y (run_build_struct (pl := #[(0, 1), (1, 1), (2, 1), (3, 1), (4, 1), (5, 1), (6, 1)]) zeroValue30 underlying30 (fun _ => by kernel_rfl) (by kernel_rfl))) ?_
     refine Yz 20 1048575 2097151 [5] [false] [] rfl Y rfl rfl rfl rfl (w_store_agg sizeOf30 Y Y (by (simp [Value.oneCell']; done)) Wu (by rfl) (by first | rfl | (simp; done)) Wb (by exact free_zero _)) ?_
     rintro _ _ ⟨rfl, rfl⟩
     refine ⟨keep_nil, ?_⟩
     refine lin_nil ?_
     refine Zn [14, 2, 3, 4, 6, 11, 12] ?_
     refine nx_cutB (e' := [(14, _)]) (H' := _) (by exact ⟨bq, trivial, rfl, rfl⟩)
    refine Zy 206 587726 [15, 10, 7] [true, true, false] [(15, (_, _)), (10, (_, _))] rfl Y rfl rfl rfl rfl (Zu [_, _] Y call6 Y rfl (P1)) ?hk_121 (fun _ _ h => h.elim) ?hl_121
    case hk_121 =>
     rintro _ _ ⟨rfl, rfl⟩
     refine ⟨Zk (Zk (keep_nil)), ?_⟩
     refine Zz (l := [0, 11]) ?_
     refine Zy 0 587727 [15, 10] [true, true] [(15, (_, _)), (10, (_, _))] rfl Y rfl rfl rfl rfl (w_buildSlice (vs := [_, _, _, _, _]) (cs := [_, _, _, _, _]) underlying28 sizeOf3 zeroValue3 Y rfl rfl rfl rfl rfl) ?hk_122 (fun _ _ h => h.elim) ?hl_122
     case hk_122 =>
      rintro _ _ ⟨gk, rfl, rfl⟩
      refine ⟨Zk (Zk (keep_nil)), ?_⟩
      (refine lin_v (D' := 587743) 4 (p_indexAddr_nat0 underlying28 sizeOf3 Y Y ?_) ?_; (focus (first | omega | decide | (simp; done))))
      refine Zj 587775 5 rfl isAgg3 Y (hv := by exact kind_at _ hp0) ?_
      refine Yz 11 1998 589823 [5, 15, 10] [true, true, false] [(5, (_, _)), (15, (_, _))] rfl Y rfl rfl rfl rfl (Zu [_, _] Y call6 Y rfl (P2)) ?_
      rintro _ _ ⟨rfl, rfl⟩
      refine ⟨Zk (Zk (keep_nil)), ?_⟩
      refine Yz 16 53198 655359 [5, 15] [true, false] [(5, (_, _))] rfl Y rfl rfl rfl rfl (Zu [_, _] Y call6 Y rfl (P4)) ?_
      rintro _ _ ⟨rfl, rfl⟩
      refine ⟨Zk (keep_nil), ?_⟩
      (refine lin_v (D' := 786431) 17 (p_add_nat Y Y ?_) ?_; (focus (omega)))
      refine Zi 1048575 18 rfl (p_build (vs := [(0, .int .i64 ((2 + n0 : Nat) : Int)), (1, .int .i64 (n1 : Int)), (2, .int .i64 (n2 : Int)), (3, .int .i64 (n3 : Int)), (4, .int .i64 ((n3 + n4 : Nat) : Int))]) (cs := #[.int .i64 ((2 + n0 : Nat) : Int), .int .i64 (n1 : Int), .int .i64 (n2 : Int), .int .i64 (n3 : Int), .int .i64 ((n3 + n4 : Nat) : Int), .int .i64 0, .int .i64 0]) Y (run_build_struct (pl := #[(0, 1), (1, 1), (2, 1), (3, 1), (4, 1), (5, 1), (6, 1)]) zeroValue30 underlying30 (fun _ => by kernel_rfl) (by kernel_rfl))) ?_
      refine Yz 20 1048575 2097151 [5] [false] [] rfl Y rfl rfl rfl rfl (w_store_agg sizeOf30 Y Y (by (simp [Value.oneCell']; done)) Wu (by rfl) (by first | rfl | (simp; done)) Wb (by exact free_zero _)) ?_
      rintro _ _ ⟨rfl, rfl⟩
      refine ⟨keep_nil, ?_⟩
      refine lin_nil ?_
      refine Zn [14, 2, 3, 4, 6, 11, 12] ?_
      refine nx_cutB (e' := [(14, _)]) (H' := _) (by exact ⟨bq, trivial, rfl, rfl⟩)
     refine Zy 1998 589774 [15, 10] [true, false] [(15, (_, _))] rfl Y rfl rfl rfl rfl (Zu [_, _] Y call6 Y rfl (P2)) ?hk_127 (fun _ _ h => h.elim) ?hl_127
     case hk_127 =>
      rintro _ _ ⟨rfl, rfl⟩
      refine ⟨Zk (keep_nil), ?_⟩
      refine Zz (l := [0, 16]) ?_
      refine Zy 0 589775 [15] [true] [(15, (_, _))] rfl Y rfl rfl rfl rfl (w_buildSlice (vs := [_, _, _, _, _]) (cs := [_, _, _, _, _]) underlying28 sizeOf3 zeroValue3 Y rfl rfl rfl rfl rfl) ?hk_128 (fun _ _ h => h.elim) ?hl_128
      case hk_128 =>
       rintro _ _ ⟨gk, rfl, rfl⟩
       refine ⟨Zk (keep_nil), ?_⟩
       (refine lin_v (D' := 589791) 4 (p_indexAddr_nat0 underlying28 sizeOf3 Y Y ?_) ?_; (focus (first | omega | decide | (simp; done))))
       refine Zj 589823 5 rfl isAgg3 Y (hv := by exact kind_at _ hp0) ?_
       refine Yz 16 53198 655359 [5, 15] [true, false] [(5, (_, _))] rfl Y rfl rfl rfl rfl (Zu [_, _] Y call6 Y rfl (P4)) ?_
       rintro _ _ ⟨rfl, rfl⟩
       refine ⟨Zk (keep_nil), ?_⟩
       (refine lin_v (D' := 786431) 17 (p_add_nat Y Y ?_) ?_; (focus (omega)))
       refine Zi 1048575 18 rfl (p_build (vs := [(0, .int .i64 ((2 + n0 : Nat) : Int)), (1, .int .i64 (n1 : Int)), (2, .int .i64 (n2 : Int)), (3, .int .i64 (n3 : Int)), (4, .int .i64 ((n3 + n4 : Nat) : Int))]) (cs := #[.int .i64 ((2 + n0 : Nat) : Int), .int .i64 (n1 : Int), .int .i64 (n2 : Int), .int .i64 (n3 : Int), .int .i64 ((n3 + n4 : Nat) : Int), .int .i64 0, .int .i64 0]) Y (run_build_struct (pl := #[(0, 1), (1, 1), (2, 1), (3, 1), (4, 1), (5, 1), (6, 1)]) zeroValue30 underlying30 (fun _ => by kernel_rfl) (by kernel_rfl))) ?_
       refine Yz 20 1048575 2097151 [5] [false] [] rfl Y rfl rfl rfl rfl (w_store_agg sizeOf30 Y Y (by (simp [Value.oneCell']; done)) Wu (by rfl) (by first | rfl | (simp; done)) Wb (by exact free_zero _)) ?_
       rintro _ _ ⟨rfl, rfl⟩
       refine ⟨keep_nil, ?_⟩
       refine lin_nil ?_
       refine Zn [14, 2, 3, 4, 6, 11, 12] ?_
       refine nx_cutB (e' := [(14, _)]) (H' := _) (by exact ⟨bq, trivial, rfl, rfl⟩)
      refine Zy 53198 655310 [15] [false] [] rfl Y rfl rfl rfl rfl (Zu [_, _] Y call6 Y rfl (P4)) ?hk_132 (fun _ _ h => h.elim) ?hl_132
      case hk_132 =>
       rintro _ _ ⟨rfl, rfl⟩
       refine ⟨keep_nil, ?_⟩
       (refine lin_v (D' := 786382) 17 (p_add_nat Y Y ?_) ?_; (focus (omega)))
       refine Yz 0 0 786383 [] [] [] rfl Y rfl rfl rfl rfl (w_buildSlice (vs := [_, _, _, _, _]) (cs := [_, _, _, _, _]) underlying28 sizeOf3 zeroValue3 Y rfl rfl rfl rfl rfl) ?_
       rintro _ _ ⟨gk, rfl, rfl⟩
       refine ⟨keep_nil, ?_⟩
       (refine lin_v (D' := 786399) 4 (p_indexAddr_nat0 underlying28 sizeOf3 Y Y ?_) ?_; (focus (first | omega | decide | (simp; done))))
       refine Zj 786431 5 rfl isAgg3 Y (hv := by exact kind_at _ hp0) ?_
       refine Zi 1048575 18 rfl (p_build (vs := [(0, .int .i64 ((2 + n0 : Nat) : Int)), (1, .int .i64 (n1 : Int)), (2, .int .i64 (n2 : Int)), (3, .int .i64 (n3 : Int)), (4, .int .i64 ((n3 + n4 : Nat) : Int))]) (cs := #[.int .i64 ((2 + n0 : Nat) : Int), .int .i64 (n1 : Int), .int .i64 (n2 : Int), .int .i64 (n3 : Int), .int .i64 ((n3 + n4 : Nat) : Int), .int .i64 0, .int .i64 0]) Y (run_build_struct (pl := #[(0, 1), (1, 1), (2, 1), (3, 1), (4, 1), (5, 1), (6, 1)]) zeroValue30 underlying30 (fun _ => by kernel_rfl) (by kernel_rfl))) ?_
       refine Yz 20 1048575 2097151 [5] [false] [] rfl Y rfl rfl rfl rfl (w_store_agg sizeOf30 Y Y (by (simp [Value.oneCell']; done)) Wu (by rfl) (by first | rfl | (simp; done)) Wb (by exact free_zero _)) ?_
       rintro _ _ ⟨rfl, rfl⟩
       refine ⟨keep_nil, ?_⟩
       refine lin_nil ?_
       refine Zn [14, 2, 3, 4, 6, 11, 12] ?_
       refine nx_cutB (e' := [(14, _)]) (H' := _) (by exact ⟨bq, trivial, rfl, rfl⟩)
      exact each_nil
     exact each_nil
    exact each_nil
   exact each_nil
  refine Zy 0 587462 [15, 10, 7, 2] [true, true, true, true] [(15, (_, _)), (10, (_, _)), (7, (_, _)), (2, (_, _))] rfl Y rfl rfl rfl rfl (w_alloc zeroValue30 (cs := #[_, _, _, _, _, _, _]) rfl) ?hk_136 (fun _ _ h => h.elim) ?hl_136
  case hk_136 =>
   rintro _ _ ⟨bq, rfl, rfl⟩
   refine ⟨Zk (Zk (Zk (Zk (keep_nil)))), ?_⟩
   refine Zz (l := [0, 3]) ?_
   refine Zy 0 587463 [15, 10, 7, 2] [true, true, true, true] [(15, (_, _)), (10, (_, _)), (7, (_, _)), (2, (_, _))] rfl Y rfl rfl rfl rfl (w_buildSlice (vs := [_, _, _, _, _]) (cs := [_, _, _, _, _]) underlying28 sizeOf3 zeroValue3 Y rfl rfl rfl rfl rfl) ?hk_137 (fun _ _ h => h.elim) ?hl_137
   case hk_137 =>
    rintro _ _ ⟨gk, rfl, rfl⟩
    refine ⟨Zk (Zk (Zk (Zk (keep_nil)))), ?_⟩
    refine Yz 3 6 587471 [15, 10, 7, 2] [true, true, true, false] [(15, (_, _)), (10, (_, _)), (7, (_, _))] rfl Y rfl rfl rfl rfl (Zu [_, _] Y call6 Y rfl (P0)) ?_
    rintro _ _ ⟨rfl, rfl⟩
    refine ⟨Zk (Zk (Zk (keep_nil))), ?_⟩
    (refine lin_v (D' := 587487) 4 (p_indexAddr_nat0 underlying28 sizeOf3 Y Y ?_) ?_; (focus (first | omega | decide | (simp; done))))
    refine Zj 587519 5 rfl isAgg3 Y (hv := by exact kind_at _ hp0) ?_
    refine Yz 8 206 587775 [5, 15, 10, 7] [true, true, true, false] [(5, (_, _)), (15, (_, _)), (10, (_, _))] rfl Y rfl rfl rfl rfl (Zu [_, _] Y call6 Y rfl (P1)) ?_
    rintro _ _ ⟨rfl, rfl⟩
    refine ⟨Zk (Zk (Zk (keep_nil))), ?_⟩
    refine Yz 11 1998 589823 [5, 15, 10] [true, true, false] [(5, (_, _)), (15, (_, _))] rfl Y rfl rfl rfl rfl (Zu [_, _] Y call6 Y rfl (P2)) ?_
    rintro _ _ ⟨rfl, rfl⟩
    refine ⟨Zk (Zk (keep_nil)), ?_⟩
    refine Yz 16 53198 655359 [5, 15] [true, false] [(5, (_, _))] rfl Y rfl rfl rfl rfl (Zu [_, _] Y call6 Y rfl (P4)) ?_
    rintro _ _ ⟨rfl, rfl⟩
    refine ⟨Zk (keep_nil), ?_⟩
    (refine lin_v (D' := 786431) 17 (p_add_nat Y Y ?_) ?_; (focus (omega)))
    refine Zi 1048575 18 rfl (p_build (vs := [(0, .int .i64 ((2 + n0 : Nat) : Int)), (1, .int .i64 (n1 : Int)), (2, .int .i64 (n2 : Int)), (3, .int .i64 (n3 : Int)), (4, .int .i64 ((n3 + n4 : Nat) : Int))]) (cs := #[.int .i64 ((2 + n0 : Nat) : Int), .int .i64 (n1 : Int), .int .i64 (n2 : Int), .int .i64 (n3 : Int), .int .i64 ((n3 + n4 : Nat) : Int), .int .i64 0, .int .i64 0]) Y (run_build_struct (pl := #[(0, 1), (1, 1), (2, 1), (3, 1), (4, 1), (5, 1), (6, 1)]) zeroValue30 underlying30 (fun _ => by kernel_rfl) (by kernel_rfl))) ?_
    refine Yz 20 1048575 2097151 [5] [false] [] rfl Y rfl rfl rfl rfl (w_store_agg sizeOf30 Y Y (by (simp [Value.oneCell']; done)) Wu (by rfl) (by first | rfl | (simp; done)) Wb (by exact free_zero _)) ?_
    rintro _ _ ⟨rfl, rfl⟩
    refine ⟨keep_nil, ?_⟩
    refine lin_nil ?_
    refine Zn [14, 2, 3, 4, 6, 11, 12] ?_
    refine nx_cutB (e' := [(14, _)]) (H' := _) (by exact ⟨bq, trivial, rfl, rfl⟩)
   refine Zy 6 587470 [15, 10, 7, 2] [true, true, true, false] [(15, (_, _)), (10, (_, _)), (7, (_, _))] rfl Y rfl rfl rfl rfl (Zu [_, _] Y call6 Y rfl (P0)) ?hk_144 (fun _ _ h => h.elim) ?hl_144
   case hk_144 =>
    rintro _ _ ⟨rfl, rfl⟩
    refine ⟨Zk (Zk (Zk (keep_nil))), ?_⟩
    refine Zz (l := [0, 8]) ?_
    refine Zy 0 587471 [15, 10, 7] [true, true, true] [(15, (_, _)), (10, (_, _)), (7, (_, _))] rfl Y rfl rfl rfl rfl (w_buildSlice (vs := [_, _, _, _, _]) (cs := [_, _, _, _, _]) underlying28 sizeOf3 zeroValue3 Y rfl rfl rfl rfl rfl) ?hk_145 (fun _ _ h => h.elim) ?hl_145
    case hk_145 =>
     rintro _ _ ⟨gk, rfl, rfl⟩
     refine ⟨Zk (Zk (Zk (keep_nil))), ?_⟩
     (refine lin_v (D' := 587487) 4 (p_indexAddr_nat0 underlying28 sizeOf3 Y Y ?_) ?_; (focus (first | omega | decide | (simp; done))))
     refine Zj 587519 5 rfl isAgg3 Y (hv := by exact kind_at _ hp0) ?_
     refine Yz 8 206 587775 [5, 15, 10, 7] [true, true, true, false] [(5, (_, _)), (15, (_, _)), (10, (_, _))] rfl Y rfl rfl rfl rfl (Zu [_, _] Y call6 Y rfl (P1)) ?_
     rintro _ _ ⟨rfl, rfl⟩
     refine ⟨Zk (Zk (Zk (keep_nil))), ?_⟩
     refine Yz 11 1998 589823 [5, 15, 10] [true, true, false] [(5, (_, _)), (15, (_, _))] rfl Y rfl rfl rfl rfl (Zu [_, _] Y call6 Y rfl (P2)) ?_
     rintro _ _ ⟨rfl, rfl⟩
     refine ⟨Zk (Zk (keep_nil)), ?_⟩
     refine Yz 16 53198 655359 [5, 15] [true, false] [(5, (_, _))] rfl Y rfl rfl rfl rfl (Zu [_, _] Y call6 Y rfl (P4)) ?_
     rintro _ _ ⟨rfl, rfl⟩
     refine ⟨Zk (keep_nil), ?_⟩
     (refine lin_v (D' := 786431) 17 (p_add_nat Y Y ?_) ?_; (focus (omega)))
     refine Zi 1048575 18 rfl (p_build (vs := [(0, .int .i64 ((2 + n0 : Nat) : Int)), (1, .int .i64 (n1 : Int)), (2, .int .i64 (n2 : Int)), (3, .int .i64 (n3 : Int)), (4, .int .i64 ((n3 + n4 : Nat) : Int))]) (cs := #[.int .i64 ((2 + n0 : Nat) : Int), .int .i64 (n1 : Int), .int .i64 (n2 : Int), .int .i64 (n3 : Int), .int .i64 ((n3 + n4 : Nat) : Int), .int .i64 0, .int .i64 0]) Y (run_build_struct (pl := #[(0, 1), (1, 1), (2, 1), (3, 1), (4, 1), (5, 1), (6, 1)]) zeroValue30 underlying30 (fun _ => by kernel_rfl) (by kernel_rfl))) ?_
     refine Yz 20 1048575 2097151 [5] [false] [] rfl Y rfl rfl rfl rfl (w_store_agg sizeOf30 Y Y (by (simp [Value.oneCell']; done)) Wu (by rfl) (by first | rfl | (simp; done)) Wb (by exact free_zero _)) ?_
     rintro _ _ ⟨rfl, rfl⟩
     refine ⟨keep_nil, ?_⟩
     refine lin_nil ?_
     refine Zn [14, 2, 3, 4, 6, 11, 12] ?_
     refine nx_cutB (e' := [(14, _)]) (H' := _) (by exact ⟨bq, trivial, rfl, rfl⟩)
    refine Zy 206 587726 [15, 10, 7] [true, true, false] [(15, (_, _)), (10, (_, _))] rfl Y rfl rfl rfl rfl (Zu [_, _] Y call6 Y rfl (P1)) ?hk_151 (fun _ _ h => h.elim) ?hl_151
    case hk_151 =>
     rintro _ _ ⟨rfl, rfl⟩
     refine ⟨Zk (Zk (keep_nil)), ?_⟩
     refine Zz (l := [0, 11]) ?_
     refine Zy 0 587727 [15, 10] [true, true] [(15, (_, _)), (10, (_, _))] rfl Y rfl rfl rfl rfl (w_buildSlice (vs := [_, _, _, _, _]) (cs := [_, _, _, _, _]) underlying28 sizeOf3 zeroValue3 Y rfl rfl rfl rfl rfl) ?hk_152 (fun _ _ h => h.elim) ?hl_152
     case hk_152 =>
      rintro _ _ ⟨gk, rfl, rfl⟩
      refine ⟨Zk (Zk (keep_nil)), ?_⟩
      (refine lin_v (D' := 587743) 4 (p_indexAddr_nat0 underlying28 sizeOf3 Y Y ?_) ?_; (focus (first | omega | decide | (simp; done))))
      refine Zj 587775 5 rfl isAgg3 Y (hv := by exact kind_at _ hp0) ?_
      refine Yz 11 1998 589823 [5, 15, 10] [true, true, false] [(5, (_, _)), (15, (_, _))] rfl Y rfl rfl rfl rfl (Zu [_, _] Y call6 Y rfl (P2)) ?_
      rintro _ _ ⟨rfl, rfl⟩
      refine ⟨Zk (Zk (keep_nil)), ?_⟩
      refine Yz 16 53198 655359 [5, 15] [true, false] [(5, (_, _))] rfl Y rfl rfl rfl rfl (Zu [_, _] Y call6 Y rfl (P4)) ?_
      rintro _ _ ⟨rfl, rfl⟩
      refine ⟨Zk (keep_nil), ?_⟩
      (refine lin_v (D' := 786431) 17 (p_add_nat Y Y ?_) ?_; (focus (omega)))
      refine Zi 1048575 18 rfl (p_build (vs := [(0, .int .i64 ((2 + n0 : Nat) : Int)), (1, .int .i64 (n1 : Int)), (2, .int .i64 (n2 : Int)), (3, .int .i64 (n3 : Int)), (4, .int .i64 ((n3 + n4 : Nat) : Int))]) (cs := #[.int .i64 ((2 + n0 : Nat) : Int), .int .i64 (n1 : Int), .int .i64 (n2 : Int), .int .i64 (n3 : Int), .int .i64 ((n3 + n4 : Nat) : Int), .int .i64 0, .int .i64 0]) Y (run_build_struct (pl := #[(0, 1), (1, 1), (2, 1), (3, 1), (4, 1), (5, 1), (6, 1)]) zeroValue30 underlying30 (fun _ => by kernel_rfl) (by kernel_rfl))) ?_
      refine Yz 20 1048575 2097151 [5] [false] [] rfl Y rfl rfl rfl rfl (w_store_agg sizeOf30 Y Y (by (simp [Value.oneCell']; done)) Wu (by rfl) (by first | rfl | (simp; done)) Wb (by exact free_zero _)) ?_
      rintro _ _ ⟨rfl, rfl⟩
      refine ⟨keep_nil, ?_⟩
      refine lin_nil ?_
      refine Zn [14, 2, 3, 4, 6, 11, 12] ?_
      refine nx_cutB (e' := [(14, _)]) (H' := _) (by exact ⟨bq, trivial, rfl, rfl⟩)
     refine Zy 1998 589774 [15, 10] [true, false] [(15, (_, _))] rfl Y rfl rfl rfl rfl (Zu [_, _] Y call6 Y rfl (P2)) ?hk_157 (fun _ _ h => h.elim) ?hl_157
     case hk_157 =>
      rintro _ _ ⟨rfl, rfl⟩
      refine ⟨Zk (keep_nil), ?_⟩
      refine Zz (l := [0, 16]) ?_
      refine Zy 0 589775 [15] [true] [(15, (_, _))] rfl Y rfl rfl rfl rfl (w_buildSlice (vs := [_, _, _, _, _]) (cs := [_, _, _, _, _]) underlying28 sizeOf3 zeroValue3 Y rfl rfl rfl rfl rfl) ?hk_158 (fun _ _ h => h.elim) ?hl_158
      case hk_158 =>
       rintro _ _ ⟨gk, rfl, rfl⟩
       refine ⟨Zk (keep_nil), ?_⟩
       (refine lin_v (D' := 589791) 4 (p_indexAddr_nat0 underlying28 sizeOf3 Y Y ?_) ?_; (focus (first | omega | decide | (simp; done))))
       refine Zj 589823 5 rfl isAgg3 Y (hv := by exact kind_at _ hp0) ?_
       refine Yz 16 53198 655359 [5, 15] [true, false] [(5, (_, _))] rfl Y rfl rfl rfl rfl (Zu [_, _] Y call6 Y rfl (P4)) ?_
       rintro _ _ ⟨rfl, rfl⟩
       refine ⟨Zk (keep_nil), ?_⟩
       (refine lin_v (D' := 786431) 17 (p_add_nat Y Y ?_) ?_; (focus (omega)))
       refine Zi 1048575 18 rfl (p_build (vs := [(0, .int .i64 ((2 + n0 : Nat) : Int)), (1, .int .i64 (n1 : Int)), (2, .int .i64 (n2 : Int)), (3, .int .i64 (n3 : Int)), (4, .int .i64 ((n3 + n4 : Nat) : Int))]) (cs := #[.int .i64 ((2 + n0 : Nat) : Int), .int .i64 (n1 : Int), .int .i64 (n2 : Int), .int .i64 (n3 : Int), .int .i64 ((n3 + n4 : Nat) : Int), .int .i64 0, .int .i64 0]) Y (run_build_struct (pl := #[(0, 1), (1, 1), (2, 1), (3, 1), (4, 1), (5, 1), (6, 1)]) zeroValue30 underlying30 (fun _ => by kernel_rfl) (by kernel_rfl))) ?_
       refine Yz 20 1048575 2097151 [5] [false] [] rfl Y rfl rfl rfl rfl (w_store_agg sizeOf30 Y Y (by (simp [Value.oneCell']; done)) Wu (by rfl) (by first | rfl | (simp; done)) Wb (by exact free_zero _)) ?_
       rintro _ _ ⟨rfl, rfl⟩
       refine ⟨keep_nil, ?_⟩
       refine lin_nil ?_
       refine Zn [14, 2, 3, 4, 6, 11, 12] ?_
       refine nx_cutB (e' := [(14, _)]) (H' := _) (by exact ⟨bq, trivial, rfl, rfl⟩)
      refine Zy 53198 655310 [15] [false] [] rfl Y rfl rfl rfl rfl (Zu [_, _] Y call6 Y rfl (P4)) ?hk_162 (fun _ _ h => h.elim) ?hl_162
      case hk_162 =>
       rintro _ _ ⟨rfl, rfl⟩
       refine ⟨keep_nil, ?_⟩
       (refine lin_v (D' := 786382) 17 (p_add_nat Y Y ?_) ?_; (focus (omega)))
       refine Yz 0 0 786383 [] [] [] rfl Y rfl rfl rfl rfl (w_buildSlice (vs := [_, _, _, _, _]) (cs := [_, _, _, _, _]) underlying28 sizeOf3 zeroValue3 Y rfl rfl rfl rfl rfl) ?_
       rintro _ _ ⟨gk, rfl, rfl⟩
       refine ⟨keep_nil, ?_⟩
       (refine lin_v (D' := 786399) 4 (p_indexAddr_nat0 underlying28 sizeOf3 Y Y ?_) ?_; (focus (first | omega | decide | (simp; done))))
       refine Zj 786431 5 rfl isAgg3 Y (hv := by exact kind_at _ hp0) ?_
       refine Zi 1048575 18 rfl (p_build (vs := [(0, .int .i64 ((2 + n0 : Nat) : Int)), (1, .int .i64 (n1 : Int)), (2, .int .i64 (n2 : Int)), (3, .int .i64 (n3 : Int)), (4, .int .i64 ((n3 + n4 : Nat) : Int))]) (cs := #[.int .i64 ((2 + n0 : Nat) : Int), .int .i64 (n1 : Int), .int .i64 (n2 : Int), .int .i64 (n3 : Int), .int .i64 ((n3 + n4 : Nat) : Int), .int .i64 0, .int .i64 0]) Y (run_build_struct (pl := #[(0, 1), (1, 1), (2, 1), (3, 1), (4, 1), (5, 1), (6, 1)]) zeroValue30 underlying30 (fun _ => by kernel_rfl) (by kernel_rfl))) ?_
       refine Yz 20 1048575 2097151 [5] [false] [] rfl Y rfl rfl rfl rfl (w_store_agg sizeOf30 Y Y (by (simp [Value.oneCell']; done)) Wu (by rfl) (by first | rfl | (simp; done)) Wb (by exact free_zero _)) ?_
       rintro _ _ ⟨rfl, rfl⟩
       refine ⟨keep_nil, ?_⟩
       refine lin_nil ?_
       refine Zn [14, 2, 3, 4, 6, 11, 12] ?_
       refine nx_cutB (e' := [(14, _)]) (H' := _) (by exact ⟨bq, trivial, rfl, rfl⟩)
      exact each_nil
     exact each_nil
    exact each_nil
   exact each_nil
  exact each_nil
 rintro _ _ ⟨bq, _, rfl, rfl⟩
 refine Zb [6, 2, 3, 4, 11, 12, 14] ?_
 refine at_cutB (e0 := [(6, _)]) (H0 := [[(bq, .cells #[.int .i64 ((2 + n0 : Nat) : Int), .int .i64 (n1 : Int), .int .i64 (n2 : Int), .int .i64 (n3 : Int), .int .i64 ((n3 + n4 : Nat) : Int), .int .i64 0, .int .i64 0] 30 (0, 0))]]) (fun e H => ∃ (q : QM), (ValidQ q ∧ q.kd ≠ 7) ∧ e = [] ∧ H = [[(bq, .cells #[.int .i64 q.kd, .int .i64 q.tb, .int .i64 q.cl, .int .i64 q.lo, .int .i64 q.hi, .int .i64 q.bq, .int .i64 q.ot] 30 (0, 0))]]) Wp ?hx_166 ?hy_166
 case hx_166 =>
  refine Zq <| Zg <| Zh 0 underlying30 rfl rfl sizeOf3 Y <| Zl isAgg3 Y ?_
  refine Zv (p_geq_nat (n := 4) Y Y) <| Z0 <| Zx ?_
  refine at_if Y (fun k1 => ?_) (fun k1 => ?_)
  ·
   refine Zg ?_
   (refine op_v (p_indexAddr_arr0 (j := 4) underlying23 sizeOf3 Y Y ?_) ?_; (focus (first | omega | decide | (simp; done))))
   refine Zl isAgg3 Y ?_
   refine op_w (p_quo (m := q4) (n := 12) Y Y (by decide) (IntWalk.i64_in _ (by omega))) rfl rfl ?_
   refine Xr [_, _] Y call6 Y rfl (P5) ?_
   refine Ya (m := 1) Y Y <| Zh 5 underlying30 rfl rfl sizeOf3 Y <| Xe (Zs sizeOf3 Y Y rfl (hi := by first | omega | decide | (simp; done))) ?_
   refine Z0 <| Zn [2, 3, 4, 11, 12, 14] ?_
   refine nx_cutB (e' := []) (H' := _) (by exact ⟨⟨((2 + n0 : Nat) : Int), (n1 : Int), (n2 : Int), (n3 : Int), ((n3 + n4 : Nat) : Int), ((1 + n5 : Nat) : Int), 0⟩, ⟨valid_of (by omega), by simp only; omega⟩, rfl, rfl⟩)
  refine at_skip <| Zn [2, 3, 4, 11, 12, 14] ?_
  refine nx_cutB (e' := []) (H' := _) (by exact ⟨⟨((2 + n0 : Nat) : Int), (n1 : Int), (n2 : Int), (n3 : Int), ((n3 + n4 : Nat) : Int), 0, 0⟩, ⟨valid_of (by omega), by simp only; omega⟩, rfl, rfl⟩)
 rintro _ _ ⟨q, ⟨hq, h7⟩, rfl, rfl⟩
 refine Zq <| Zg <| Zm Y <| Zm Y <| Zv (p_len_slice underlying25 Y) <| Ya (n := 1) Y Y <| Xr [_, _] Y call6 Y rfl (pick16 be (l.length + 1) (by omega) (by omega) hbe1 hbe2) ?_
 obtain ⟨a9, ha9⟩ : ∃ n, n = pickN be (l.length + 1) := ⟨_, rfl⟩
 rw [← ha9]
 have hba9 := pickN_lt be (l.length + 1) (by omega)
 refine Za Y <| Z0 <| Zx <| Zq <| Zg <| Zm Y <| Zm Y <| Zm Y <| Zv (p_len_slice underlying25 Y) <| Zm Y <| Yb Y Y <| Ya (n := 1) Y Y <| Xr [_, _] Y call6 Y rfl (pick16 ar (l.length - a9 + 1) (by omega) (by omega) har1 har2) ?_
 obtain ⟨d9, hd9⟩ : ∃ n, n = pickN ar (l.length - a9 + 1) := ⟨_, rfl⟩
 rw [← hd9]
 have hbd9 := pickN_lt ar (l.length - a9 + 1) (by omega)
 refine Ya Y Y <| Za Y <| Z0 <| Zn [3, 11, 12, 14, 15, 16] ?_
 refine Zx <| Zq <| Zg <| Zm Y <| Zm Y <| Zm Y <| Zm Y <| Yb Y Y <| Ya (n := 1) Y Y <| Xr [_, _] Y call6 Y rfl (pick16 ba (a9 + d9 - a9 + 1) (by omega) (by omega) hba1 hba2) ?_
 obtain ⟨e9, he9⟩ : ∃ n, n = pickN ba (a9 + d9 - a9 + 1) := ⟨_, rfl⟩
 rw [← he9]
 have hbe9 := pickN_lt ba (a9 + d9 - a9 + 1) (by omega)
 refine Ya Y Y <| Za Y <| Z0 <| Zx <| Zq <| Zg <| Zm Y <| Zm Y <| Zc [_, _] Y call7 Y rfl (st_at pl capl l sl hRI hlog (by omega) (a9 + e9) (by omega)) ?_
 rintro _ _ ⟨_, ⟨sp1, mm1, esx, ckx, lmx, rfl, hmx, hRx, rfl⟩, rfl⟩
 obtain ⟨hs1, hn1⟩ := hlog.rows (a9 + e9) (by omega)
 have hok1 := hlog.rowsOk (a9 + e9) (by omega)
 have hfew := hlog.few (a9 + e9) (by omega)
 have hst1 : StIs (.pointer (some ⟨sp1, 0, none⟩)) ((((a9 + e9) : Nat) : Int) : Int) (rowsOf (l.take (a9 + e9))) [(sp1, .cells #[.map (some mm1), .int .i64 (((a9 + e9) : Nat) : Int)] 124 (0, 0)), (mm1, .map esx ckx)] := ⟨sp1, mm1, esx, ckx, lmx, rfl, hmx, hRx, hs1, hn1, rfl⟩
 refine Zm Y <| Zd Y rfl <| Zd Y rfl <| Za Y <| Za Y <| Z0 <| Zn [11, 12, 14, 15, 16, 17, 18, 19] ?_
 refine Zx <| Zq <| Zq <| at_join (s1 := [(sp1, _)]) (s2 := [(mm1, _)]) Wo Wo ?_
 refine Zg <| Zm Y <| Zv (p_neq_nat (n := 0) Y Y) <| Z0 <| Zx ?_
 refine at_if Y (fun k2 => ?_) (fun k2 => ?_)
 ·
  exact absurd rfl k2
 refine at_skip <| Zx <| Zq <| Zg <| Zm Y <| Zo Wh (p_load_agg (cs := #[_, _, _, _, _, _, _]) isAgg30 sizeOf30 Y Wn (by rfl)) ?_
 refine Zc [_, _] Y call8 Y rfl (make_q _ _ (rowsOf (l.take (a9 + e9))) _ hst1 hs1 hn1 hok1 q hq h7 (by omega) Tg zg) ?_
 rintro _ _ ⟨_, ⟨qr, cr, qp, cp, qt, ct, mem, g6, c6, so, rfl, hR6, hso6, rfl⟩, rfl⟩
 obtain ⟨hcomp, hrows⟩ := rows_q hs1 hn1 hok1 q hq
 have hhd := @prove_hd (rowsOf (l.take (a9 + e9))) q hq
 obtain ⟨xp9, hxp9⟩ : ∃ x, x = proveT (rowsOf (l.take (a9 + e9))) q.tb.toNat q.cl.toNat q.lo q.hi := ⟨_, rfl⟩
 rw [← hxp9] at hR6 hso6 hcomp hrows hhd
 refine Zm Y <| Zd Y rfl <| Zd Y rfl <| Za Y <| Za Y <| Z0 <| Zx <| Zq <| Zg <| Zo Wh (p_load_agg (cs := #[_, _, _, _, _, _, _]) isAgg30 sizeOf30 Y Wn (by rfl)) ?_
 refine Zm Y <| Zc [_, _] Y call9 Y rfl (start_q hn1 hok1 q hq hcomp hrows hhd hR6 hso6 h7 (by omega)) ?_
 rintro _ _ ⟨_, ⟨rv7, s7, rfl, h7s, rfl⟩, rfl⟩
 obtain ⟨g7, c7, rfl⟩ := h7s.form
 have hU7 := rowsU_row h7s (by have := eval_len (rowsOf (l.take (a9 + e9))) q; omega)
 refine Zm Y <| Zd Y rfl <| Zd Y rfl <| Ze (w_alloc zeroValue40 (cs := #[_, _, _]) rfl) ?_
 rintro _ _ ⟨b7, rfl, rfl⟩
 refine Xe (w_store_agg sizeOf40 Y Y (by (simp [Value.oneCell']; done)) Wu (by exact (rfl : _ = (#[.slice g7 (evalT (rowsOf (l.take (a9 + e9))) q).rows.length c7, .int .i64 (evalT (rowsOf (l.take (a9 + e9))) q).val, .bool (evalT (rowsOf (l.take (a9 + e9))) q).fnd] : Array Value))) (by first | rfl | (simp; done)) Wn (by exact free_zero _)) ?_
 refine Za Y <| Z0 <| Zn [11, 12, 14, 15, 16, 17, 21, 22, 23] ?_
 refine Zx <| Zb [22, 11, 12, 14, 15, 16, 17, 21, 23] ?_
 refine at_cutB (e0 := [(22, _)]) (H0 := []) (fun e H => ∃ (sn : Int) (kn : Bool), ((kn && decide (sn = (((a9 + e9) : Nat) : Int))) = !(((l.drop (a9 + e9)).take (a9 + d9 - (a9 + e9))).any fun x => x.cs.any (touchQ q))) ∧ e = [(25, .int .i64 sn), (26, .bool kn)] ∧ H = []) Wp ?hx_169 ?hy_169
 case hx_169 =>
  refine at_draw (n := 16) (0 :: 0 :: 0 :: 0 :: 0 :: 0 :: 56 :: 127 :: 255 :: 511 :: 511 :: 511 :: 0 :: 5119 :: 14335 :: 32767 :: []) 12416 (by kernel_rfl) (by kernel_rfl) rfl ?_
  refine lin_r (D' := 1) 0 rfl rfl rfl Wh (p_load_agg (cs := #[_, _, _, _, _, _, _]) isAgg30 sizeOf30 Y Wb (by rfl)) ?_
  refine lin_r (D' := 3) 1 rfl rfl rfl Wh (p_load_agg (cs := #[_, _, _]) isAgg40 sizeOf40 Y Wb (by exact ext_whole rfl)) ?_
  refine Zi 7 2 rfl (p_move Y) <| Zi 15 3 rfl (p_move Y) <| Zi 31 4 rfl (p_move Y) <| Zi 63 5 rfl (p_move Y) ?_
  (refine lin_v (D' := 127) 6 (p_slice_slice underlying25 sizeOf51 Y Y Y ?_ ?_) ?_; (focus (first | omega | decide | (simp; done))); (focus (first | omega | decide | (simp; done))))
  refine Zz (l := [7, 12]) ?_
  refine Zy 127 255 [1, 0] [false, false] [] rfl Y rfl rfl rfl rfl (Zw [_, _, _, _] Y call10 Y rfl (replay_spec q hq h7 (((a9 + e9) : Nat) : Int) (by omega) (recs_sub hRI (show (a9 + e9) ≤ a9 + d9 by omega) (by omega)) (by rw [List.length_take, List.length_drop]; omega) (fun x hx => ((part_pos hlog (by omega) (a9 + e9) (a9 + d9)).2 x hx).1) hU7 (by have := eval_len (rowsOf (l.take (a9 + e9))) q; omega) (eval_val hn1 hok1 q))) ?hk_170 no_pan ?hl_170
  case hk_170 =>
   rintro _ _ ⟨_, ⟨rv8, s8, rfl, h8s, rfl⟩, rfl⟩
   refine ⟨keep_nil, ?_⟩
   obtain ⟨g8, c8, rfl⟩ := h8s.form
   refine Zi 511 8 rfl (p_move Y) <| Zi 1023 9 rfl (p_extract Y rfl) <| Zi 2047 10 rfl (p_extract Y rfl) <| Zi 4095 11 rfl (p_extract Y rfl) <| Zz (l := [12]) ?_
   refine Zy 0 8191 [] [] [] rfl Y rfl rfl rfl rfl (w_alloc zeroValue40 (cs := #[_, _, _]) rfl) ?hk_171 (fun _ _ h => h.elim) ?hl_171
   case hk_171 =>
    rintro _ _ ⟨b8, rfl, rfl⟩
    refine ⟨keep_nil, ?_⟩
    refine Yz 13 5119 16383 [] [] [] rfl Y rfl rfl rfl rfl (w_store_agg sizeOf40 Y Y (by (simp [Value.oneCell']; done)) Wu (by exact (rfl : _ = (#[_, _, _] : Array Value))) (by first | rfl | (simp; done)) Wb (by exact free_zero _)) ?_
    rintro _ _ ⟨rfl, rfl⟩
    refine ⟨keep_nil, ?_⟩
    refine Zi 32767 14 rfl (p_assign Y) <| Zi 65535 15 rfl (p_assign Y) <| lin_nil ?_
    refine Zn [25, 26, 11, 12, 14, 15, 16, 17, 21, 23] ?_
    refine nx_cutB (e' := [(25, _), (26, _)]) (H' := _) (by exact ⟨_, _, replay_flag (r := (evalT (rowsOf (l.take (a9 + e9))) q)) (part_pos hlog (by omega) (a9 + e9) (a9 + d9)).1 (fun x hx => ((part_pos hlog (by omega) (a9 + e9) (a9 + d9)).2 x hx).2), rfl, rfl⟩)
   exact each_nil
  refine Zy 0 4223 [1, 0] [true, true] [(1, (_, _)), (0, (_, _))] rfl Y rfl rfl rfl rfl (w_alloc zeroValue40 (cs := #[_, _, _]) rfl) ?hk_174 (fun _ _ h => h.elim) ?hl_174
  case hk_174 =>
   rintro _ _ ⟨b8, rfl, rfl⟩
   refine ⟨Zk (Zk (keep_nil)), ?_⟩
   refine Zz (l := [7]) ?_
   refine Zy 127 4351 [1, 0] [false, false] [] rfl Y rfl rfl rfl rfl (Zw [_, _, _, _] Y call10 Y rfl (replay_spec q hq h7 (((a9 + e9) : Nat) : Int) (by omega) (recs_sub hRI (show (a9 + e9) ≤ a9 + d9 by omega) (by omega)) (by rw [List.length_take, List.length_drop]; omega) (fun x hx => ((part_pos hlog (by omega) (a9 + e9) (a9 + d9)).2 x hx).1) hU7 (by have := eval_len (rowsOf (l.take (a9 + e9))) q; omega) (eval_val hn1 hok1 q))) ?hk_175 no_pan ?hl_175
   case hk_175 =>
    rintro _ _ ⟨_, ⟨rv8, s8, rfl, h8s, rfl⟩, rfl⟩
    refine ⟨keep_nil, ?_⟩
    obtain ⟨g8, c8, rfl⟩ := h8s.form
    refine Zi 4607 8 rfl (p_move Y) <| Zi 5119 9 rfl (p_extract Y rfl) <| Zi 6143 10 rfl (p_extract Y rfl) <| Zi 8191 11 rfl (p_extract Y rfl) <| Zz (l := [13]) ?_
    refine Zy 5119 16383 [] [] [] rfl Y rfl rfl rfl rfl (w_store_agg sizeOf40 Y Y (by (simp [Value.oneCell']; done)) Wu (by exact (rfl : _ = (#[_, _, _] : Array Value))) (by first | rfl | (simp; done)) Wb (by exact free_zero _)) ?hk_176 (fun _ _ h => h.elim) ?hl_176
    case hk_176 =>
     rintro _ _ ⟨rfl, rfl⟩
     refine ⟨keep_nil, ?_⟩
     refine Zi 32767 14 rfl (p_assign Y) <| Zi 65535 15 rfl (p_assign Y) <| lin_nil ?_
     refine Zn [25, 26, 11, 12, 14, 15, 16, 17, 21, 23] ?_
     refine nx_cutB (e' := [(25, _), (26, _)]) (H' := _) (by exact ⟨_, _, replay_flag (r := (evalT (rowsOf (l.take (a9 + e9))) q)) (part_pos hlog (by omega) (a9 + e9) (a9 + d9)).1 (fun x hx => ((part_pos hlog (by omega) (a9 + e9) (a9 + d9)).2 x hx).2), rfl, rfl⟩)
    exact each_nil
   exact each_nil
  exact each_nil
 rintro _ _ ⟨sn, kn, hflag, rfl, rfl⟩
 refine Zq <| Zg <| Zc [] Y call11 Y rfl (lnew_spec) ?_
 rintro _ _ ⟨_, ⟨tp, mb, rfl, rfl⟩, rfl⟩
 refine Za Y <| Z0 <| Zx <| Zq <| Zg <| Zm Y <| Zc [_, _, _] Y call12 Y rfl (lask_spec ⟨#[113]⟩ 0 0 (mapM_new _) rfl (by decide) (by decide)) ?_
 rintro _ _ ⟨_, ⟨lp, es, ck, lm, rfl, hm, hp, rfl⟩, rfl⟩
 have hg := mget_mem hm.keys ((hp _).2 (.inl rfl))
 refine Zm Y <| Zd Y rfl <| Zd Y rfl <| Za Y <| Za Y <| Z0 <| Zx <| Zq <| Zq <| Zg <| Zm Y <| Za Y <| Z0 <| Zx <| at_block <| Zb [30, 11, 12, 14, 16, 17, 21, 23, 25, 26, 27, 28, 29] ?_
 refine at_loopB (e0 := [(30, _)]) (H0 := _) (n := _) (fun m e H => ∃ (i : Nat) (bar : Int), m = a9 + d9 - i ∧ ((a9 ≤ i ∧ i ≤ a9 + d9) ∧ BarIs l q a9 i bar) ∧ e = [(30, .int .i64 (i : Int))] ∧ H = [[(lp, .cells #[.int .i64 (0 + 1), .int .i64 0, .int .i64 bar] 104 (0, 0))]]) (by exact ⟨a9, 0, rfl, ⟨⟨Nat.le_refl _, Nat.le_add_right _ _⟩, barIs_zero _ _ _⟩, rfl, rfl⟩) Wp ?_
 rintro _ _ _ ⟨i, bar, rfl, ⟨hi, hbar⟩, rfl, rfl⟩
 refine Zq <| Zq <| Zg <| Zm Y <| Zm Y <| Zv (p_lss_nat Y Y) <| Z0 <| Zx ?_
 refine at_if Y (fun hlt => ?_) (fun hlt => ?_)
 ·
  obtain ⟨x3, hx3⟩ : ∃ x, l[i]? = some x := ⟨_, List.getElem?_eq_getElem (by omega)⟩
  have hA3 := (hlog i x3 hx3).1
  have hxp := hA3.pos
  obtain ⟨xp, xq, xcap, xcs⟩ := x3
  obtain ⟨hO3, g, off, cur, T, zz, rfl, hm9, hsz9, hex9⟩ := hgl _ _ hx3
  change ChgsIn _ (.slice xq xcs.length xcap) xcs at hO3
  change cur.extract _ _ = #[.int .i64 xp, .slice xq xcs.length xcap] at hex9
  change xp = _ at hxp
  obtain ⟨pc, capc, hvc, hcl, hgc⟩ := id hO3
  injection hvc with hv1 hv2 hv3
  subst hv1 hv3
  refine at_skip <| Zx <| Zq <| at_block <| Zq <| Zg <| Za Y <| Z0 <| Zx <| Zq <| Zq <| Zg <| Za Y <| Z0 <| Zx <| at_block <| Zb [31, 32, 11, 12, 14, 16, 17, 21, 23, 25, 26, 27, 28, 29, 30] ?_
  refine at_loopB (e0 := [(31, _), (32, _)]) (H0 := _) (n := _) (fun m e H => ∃ (k : Nat), m = xcs.length - k ∧ (k ≤ xcs.length) ∧ e = [(31, .bool ((xcs.take k).any (touchQ q))), (32, .int .i64 (k : Int))] ∧ H = []) (by exact ⟨0, rfl, Nat.zero_le _, rfl, rfl⟩) Wp ?_
  rintro _ _ _ ⟨k, rfl, hk, rfl, rfl⟩
  refine Zq <| Zq <| Zg <| Zm Y <| Zm Y <| Zm Y ?_
  (refine op_v (p_indexAddr_nat underlying25 sizeOf51 Y Y ?_) ?_; (focus (first | omega | decide | (simp; done))))
  refine Zv (p_fieldAddr1 (off := 1) underlying51 rfl rfl sizeOf49 Y) <| op_rm (cs := [(g, .cells cur T zz)]) (by simp [hm9]) (p_load isAgg49 Y (ext_at (j := 1) hex9 rfl)) rfl rfl ?_
  refine Zv (p_len_slice underlying49 Y) <| Zv (p_lss_nat Y Y) <| Z0 <| Zx ?_
  refine at_if Y (fun hkt => ?_) (fun hkt => ?_)
  ·
   obtain ⟨y, hy⟩ : ∃ y, xcs[k]? = some y := ⟨_, List.getElem?_eq_getElem hkt⟩
   have hyo := hA3.ok.all k y hy
   obtain ⟨g2, off2, cur2, T2, zz2, rfl, hm2, hsz2, hex2⟩ := hgc k y hy
   refine at_skip <| Zx <| Zq <| at_block <| Zq <| at_draw (n := 11) (0 :: 0 :: 0 :: 6 :: 14 :: 30 :: 0 :: 126 :: 254 :: 511 :: 1023 :: []) 512 (by kernel_rfl) (by kernel_rfl) rfl ?_
   refine lin_r (D' := 1) 0 rfl rfl rfl Wh (p_load_agg (cs := #[_, _, _, _, _, _, _]) isAgg30 sizeOf30 Y Wb (by rfl)) ?_
   refine Zi 3 1 rfl (p_move Y) <| Zi 7 2 rfl (p_move Y) ?_
   (refine lin_v (D' := 15) 3 (p_indexAddr_nat underlying25 sizeOf51 Y Y ?_) ?_; (focus (first | omega | decide | (simp; done))))
   refine Zi 31 4 rfl (p_fieldAddr1 (off := 1) underlying51 rfl rfl sizeOf49 Y) <| lin_rm (b := g) (x := .cells cur T zz) (D' := 63) 5 rfl rfl rfl (by simp [hm9]) (p_load isAgg49 Y (ext_at (j := 1) hex9 rfl)) ?_
   refine Zi 127 6 rfl (p_move Y) ?_
   (refine lin_v (D' := 255) 7 (p_indexAddr_nat underlying49 sizeOf55 Y Y ?_) ?_; (focus (first | omega | decide | (simp; done))))
   refine lin_rm (b := g2) (x := .cells cur2 T2 zz2) (D' := 511) 8 rfl rfl rfl (by simp [hm2]) (p_load_agg (cs := #[.int .i64 y.t, .int .i64 y.k, .bool y.had, .int .i64 y.o.a, .int .i64 y.o.b, .int .i64 y.o.c, .bool y.has, .int .i64 y.n.a, .int .i64 y.n.b, .int .i64 y.n.c]) isAgg55 sizeOf55 Y (by omega) hex2) ?_
   refine Yz 9 511 1023 [8, 5, 0] [false, false, false] [] rfl Y rfl rfl rfl rfl (Zu [_, _] Y call13 Y rfl (touches_spec q y)) ?_
   rintro _ _ ⟨rfl, rfl⟩
   refine ⟨keep_nil, ?_⟩
   rw [show (decide (ValidQ q) && (decide y.ok && touchQ q y)) = touchQ q y by rw [decide_eq_true hq, decide_eq_true hyo]; rfl]
   refine Zi 2047 10 rfl (p_assign Y) <| lin_nil ?_
   refine Zn [11, 12, 14, 16, 17, 21, 23, 25, 26, 27, 28, 29, 30, 31, 32, 33] ?_
   refine Zx <| Zg <| Zm Y <| Zm Y ?_
   refine ops_split_bool (t := 159) Y rfl (fun h1 => ?_) (fun h1 => ?_)
   ·
    have e9x : (xcs.take (k + 1)).any (touchQ q) = true := by rw [any_snoc _ hy, h1]; rfl
    refine op_skip Y rfl <| Zv (p_pick_t Y Y) <| Za Y <| Z0 <| nx_block_normal <| Zx <| Zg <| Zm Y <| Ya (n := 1) Y Y <| Za Y <| Z0 <| Zn [31, 32, 11, 12, 14, 16, 17, 21, 23, 25, 26, 27, 28, 29, 30] ?_
    refine nx_againB (e' := [(31, _), (32, _)]) (m := _) (H' := _) (by exact ⟨k + 1, rfl, by omega, by rw [e9x], rfl⟩)
   have e9x : (xcs.take (k + 1)).any (touchQ q) = touchQ q y := by rw [any_snoc _ hy, h1]; rfl
   refine Zf Y Y <| Zv (p_pick_f Y Y) <| Za Y <| Z0 <| nx_block_normal <| Zx <| Zg <| Zm Y <| Ya (n := 1) Y Y <| Za Y <| Z0 <| Zn [31, 32, 11, 12, 14, 16, 17, 21, 23, 25, 26, 27, 28, 29, 30] ?_
   refine nx_againB (e' := [(31, _), (32, _)]) (m := _) (H' := _) (by exact ⟨k + 1, rfl, by omega, by rw [e9x], rfl⟩)
  have ek : k = xcs.length := by omega
  subst ek
  rw [List.take_length]
  refine at_exit <| Zt <| Zt <| nx_block_exit <| Zx <| Zq <| Zg <| Zm Y <| Z0 <| Zx ?_
  refine at_if_bool Y (fun hto => ?_) (fun hto => ?_)
  ·
   refine Zg <| Zm Y <| Zm Y <| Zm Y ?_
   (refine op_v (p_indexAddr_nat underlying25 sizeOf51 Y Y ?_) ?_; (focus (first | omega | decide | (simp; done))))
   refine Zv (p_fieldAddr1 (off := 0) underlying51 rfl rfl sizeOf3 Y) <| op_rm (cs := [(g, .cells cur T zz)]) (by simp [hm9]) (p_load isAgg3 Y (ext_at (j := 0) hex9 rfl)) rfl rfl ?_
   refine Zc [_, _, _] Y call14 Y rfl (linv_spec ⟨#[113]⟩ (0 + 1) xp (0 + 1) 0 bar lp hm hg) ?_
   rintro _ _ ⟨_, ⟨rfl, rfl⟩, rfl⟩
   refine Z0 <| Zn [11, 12, 14, 16, 17, 21, 23, 25, 26, 27, 28, 29, 30] ?_
   refine nx_block_normal <| Zx <| Zg <| Zm Y <| Ya (n := 1) Y Y <| Za Y <| Z0 <| Zn [30, 11, 12, 14, 16, 17, 21, 23, 25, 26, 27, 28, 29] ?_
   refine nx_againB (e' := [(30, _)]) (m := _) (H' := _) (by exact ⟨i + 1, max bar xp, rfl, ⟨by omega, barIs_touch hbar hx3 hto hi.1 hxp⟩, rfl, rfl⟩)
  refine at_skip <| nx_block_normal <| Zx <| Zg <| Zm Y <| Ya (n := 1) Y Y <| Za Y <| Z0 <| Zn [30, 11, 12, 14, 16, 17, 21, 23, 25, 26, 27, 28, 29] ?_
  refine nx_againB (e' := [(30, _)]) (m := _) (H' := _) (by exact ⟨i + 1, bar, rfl, ⟨by omega, barIs_keep hbar hx3 (by simpa using hto)⟩, rfl, rfl⟩)
 have ei : i = a9 + d9 := by omega
 subst ei
 have hfl2 := barIs_flag hbar (b := (a9 + e9)) (by omega) (by omega) (by omega)
 rw [← hflag] at hfl2
 refine at_exit <| Zt <| Zt <| nx_block_exit <| Zx <| Zq <| Zq <| Zg <| Zm Y <| Zv (p_neq_nat (n := 0) Y Y) <| Zm Y ?_
 refine ops_split (t := 172) Y rfl (fun k3 => ?_) (fun k3 => ?_)
 ·
  exact absurd rfl k3
 refine Zf Y Y <| Yg (p_not Y) <| Zv (p_pick_f Y Y) <| Zm Y ?_
 refine ops_split_bool (t := 176) Y rfl (fun k4 => ?_) (fun k4 => ?_)
 ·
  cases k4
 refine Zf Y Y <| Yg (p_not Y) <| Zv (p_pick_f Y Y) <| Z0 <| Zn [11, 17, 25, 26, 27, 28, 179] ?_
 refine Zx ?_
 refine at_if_bool Y (fun k5 => ?_) (fun k5 => ?_)
 ·
  cases k5
 refine at_skip <| Zx <| Zq <| Zg <| Zm Y <| Zm Y ?_
 refine ops_split_bool (t := 181) Y rfl (fun k6 => ?_) (fun k6 => ?_)
 ·
  refine Zf Y Y <| Zf Y Y <| Zf Y Y <| Zc [_, _, _, _] Y call15 Y rfl (lfill_spec ⟨#[113]⟩ (0 + 1) (((a9 + e9) : Nat) : Int) (0 + 1) 0 bar lp hm hg) ?_
  rintro _ _ ⟨_, ⟨es9, ck9, rfl, rfl⟩, rfl⟩
  rw [hfl2]
  refine Zf Y Y <| Zf Y Y ?_
  refine ops_split_bool (t := 187) Y rfl (fun hkn => ?_) (fun hkn => ?_)
  ·
   refine Zf Y Y <| Zf Y Y <| Yg (p_eql Y Y) <| Yg (p_pick_t Y Y) <| Yg (p_eql_bool underlying4 Y Y) <| Zv (p_pick_t Y Y) <| Za Y <| Z0 <| Zn [10] ?_
   refine Zx <| at_ret ?_
   refine nx_end1 rfl results3 Y (by exact ⟨by rw [hkn]; simp, rfl⟩)
  refine op_skip Y rfl <| op_skip Y rfl <| op_skip Y rfl <| Yg (p_pick_f Y Y) <| Yg (p_eql_bool underlying4 Y Y) <| Zv (p_pick_t Y Y) <| Za Y <| Z0 <| Zn [10] ?_
  refine Zx <| at_ret ?_
  refine nx_end1 rfl results3 Y (by exact ⟨by rw [hkn]; simp, rfl⟩)
 cases k6

end Go.Proofs.YtkgmgmkbgnkdnaaGreatDoor
