/- The law StatetreeSmaller. -/
import Derived.Test.YtcbjoojdfelgaaaGreatDoorEz
import Derived.Test.YtcbjoojdfelgaaaGreatDoorTr18
import Derived.Test.YtcbjoojdfelgaaaGreatDoorRt1

namespace Go.Proofs.YtcbjoojdfelgaaaGreatDoor
open Go.Proofs.Tryz
open Go Go.RowKit Gw
set_option linter.unusedVariables false
set_option linter.unusedSimpArgs false
set_option maxRecDepth 100000
attribute [local irreducible] Gw.At Gw.Nx Gw.Ops
set_option maxHeartbeats 8000000 in
theorem smaller_law {M : List Chunk} {v : Value} {xs : List (List Int)} (hX : SixIn M v xs) (a b c d x9 y9 : Int) (ha1 : -9223372036854775808 ≤ a) (ha2 : a ≤ 9223372036854775807) (hb1 : -9223372036854775808 ≤ b) (hb2 : b ≤ 9223372036854775807) (hc1 : -9223372036854775808 ≤ c) (hc2 : c ≤ 9223372036854775807) (hd1 : -9223372036854775808 ≤ d) (hd2 : d ≤ 9223372036854775807) (hx91 : -9223372036854775808 ≤ x9) (hx92 : x9 ≤ 9223372036854775807) (hy91 : -9223372036854775808 ≤ y9) (hy92 : y9 ≤ 9223372036854775807) (Tg : TypeId) (zg : Nat × Nat) : DoesR Tryz.prog 4 #[v, .agg #[.int .i64 a, .int .i64 b, .int .i64 c, .int .i64 d], .int .i64 x9, .int .i64 y9] [[(0, .cells (kTab.map u32v).toArray Tg zg)], M] (.bool true) := by
 have hml : maxLen = 9223372036854775807 := rfl
 have hp1 := pickN_lt a 4 (by decide)
 have hp2 := pickN_lt b 4 (by decide)
 have hp3 := pickN_lt c 40 (by decide)
 have hp4 := pickN_lt d 20 (by decide)
 have hp5 := pickN_lt x9 (pickN d 20 + 1) (by omega)
 have hp6 := pickN_lt y9 (pickN d 20 - pickN x9 (pickN d 20 + 1) + 1) (by omega)
 refine spec_enter func4 rfl ntmps4 rfl ?_
 intro u R
 refine Zb [0, 1, 2, 3] ?_
 refine Zq <| Zg <| Ze (w_box Y (cs := #[_, _, _, _]) rfl) ?_
 rintro _ _ ⟨b1, rfl, rfl⟩
 refine Za Y <| Z0 <| Zx <| Zq <| Zg <| Zr [] Y call7 Y rfl (sane10 Tg zg) ?_
 rintro _ _ ⟨rfl, rfl⟩
 refine Za Y <| Z0 <| Zx <| Zq <| Zg <| Zm Y <| Zc [_] Y call8 Y rfl (state_F hX) ?_
 rintro _ _ ⟨_, ⟨sp, mm, es, ck, lm, rp, w, sv, sl, l, hlog, hlF, rfl, hm, hR, hrw, rfl⟩, rfl⟩
 obtain ⟨hs, hn⟩ := hlog.all
 have hok := hlog.rowsOk l.length (Nat.le_refl _)
 rw [List.take_length] at hok
 have hrF := rowsC_of l
 obtain ⟨rs, hrs⟩ : ∃ rs, rs = rowsOf l := ⟨_, rfl⟩
 rw [← hrs] at hR hs hn hok hrw hrF
 have hst : StIs (.pointer (some ⟨sp, 0, none⟩)) (l.length : Int) rs [(sp, .cells #[.map (some mm), .int .i64 (l.length : Int)] 92 (0, 0)), (mm, .map es ck)] := ⟨sp, mm, es, ck, lm, rfl, hm, hR, hs, hn, rfl⟩
 refine Zm Y <| Zd Y rfl <| Zd Y rfl <| Za Y <| Za Y <| Z0 <| Zx <| Zq <| at_join (s1 := [(sp, _)]) (s2 := [(mm, _)]) (by repeat (first | exact One.here _ _ | apply One.there)) (by repeat (first | exact One.here _ _ | apply One.there)) ?_
 refine Zg <| Zo (by repeat (first | exact Has.here _ | apply Has.there)) (p_load_agg (cs := #[_, _, _, _]) isAgg49 sizeOf49 Y (by first | decide | exact Nat.le_refl _ | (simp; done) | (simp; omega)) (by rfl)) ?_
 refine Zr [_] Y call16 Y rfl (asked_spec a b c d ha1 ha2 hb1 hb2 hc1 hc2 hd1 hd2) ?_
 rintro _ _ ⟨rfl, rfl⟩
 refine Ze (w_alloc zeroValue49 (cs := #[_, _, _, _]) rfl) ?_
 rintro _ _ ⟨by_, rfl, rfl⟩
 refine Ze (w_store_agg sizeOf49 Y Y (by first | (simp [Value.oneCell']; done) | (simp [Value.oneCell', Value.cells]; done)) (by repeat (first | exact Upd.here _ | apply Upd.there)) (by exact (rfl : _ = (#[.int .i64 (pickN a 4 : Int), .int .i64 (pickN b 4 : Int), .int .i64 ((pickN c 40 : Int) - 20), .int .i64 ((pickN c 40 : Int) - 20 + (pickN d 20 : Int))] : Array Value))) (by first | rfl | (simp; done)) (by first | decide | exact Nat.le_refl _ | (simp; done) | (simp; omega)) (by exact free_zero _)) ?_
 rintro _ _ ⟨rfl, rfl⟩
 refine Z0 <| Zn [0, 2, 3, 9, 10, 12] ?_
 refine Zx <| Zq <| Zg <| Zm Y ?_
 first | (refine op_v (p_indexAddr_arr0 (j := 0) underlying49 sizeOf3 Y Y ?_) ?_; (focus (first | omega | decide | (simp; done)))) | (refine op_v (p_indexAddr_arr (j := 0) underlying49 sizeOf3 Y Y ?_) ?_; (focus (first | omega | decide | (simp; done))))
 refine Zl isAgg3 Y ?_
 first | (refine op_v (p_indexAddr_arr0 (j := 1) underlying49 sizeOf3 Y Y ?_) ?_; (focus (first | omega | decide | (simp; done)))) | (refine op_v (p_indexAddr_arr (j := 1) underlying49 sizeOf3 Y Y ?_) ?_; (focus (first | omega | decide | (simp; done))))
 refine Zl isAgg3 Y ?_
 first | (refine op_v (p_indexAddr_arr0 (j := 2) underlying49 sizeOf3 Y Y ?_) ?_; (focus (first | omega | decide | (simp; done)))) | (refine op_v (p_indexAddr_arr (j := 2) underlying49 sizeOf3 Y Y ?_) ?_; (focus (first | omega | decide | (simp; done))))
 refine Zl isAgg3 Y ?_
 first | (refine op_v (p_indexAddr_arr0 (j := 3) underlying49 sizeOf3 Y Y ?_) ?_; (focus (first | omega | decide | (simp; done)))) | (refine op_v (p_indexAddr_arr (j := 3) underlying49 sizeOf3 Y Y ?_) ?_; (focus (first | omega | decide | (simp; done))))
 refine Zl isAgg3 Y ?_
 refine Zc [_, _, _, _, _] Y call17 Y rfl (prove_spec _ _ rs _ hst hs hn hok (pickN a 4) (pickN b 4) (by omega) (by omega) ((pickN c 40 : Int) - 20) ((pickN c 40 : Int) - 20 + (pickN d 20 : Int)) (by omega) Tg zg) ?_
 rintro _ _ ⟨_, ⟨va, ma, rfl, hA, rfl⟩, rfl⟩
 obtain ⟨ra, pa, ta, rfl, hRa, hPa, hTa⟩ := id hA
 obtain ⟨qra, cra, rfl, hlra, hgra⟩ := id hRa
 obtain ⟨qpa, cpa, rfl, hlpa, hgpa⟩ := id hPa
 obtain ⟨qta, cta, rfl, hlta, hgta⟩ := id hTa
 have hpo := part_ok hs (pickN a 4) (pickN b 4) ((pickN c 40 : Int) - 20) ((pickN c 40 : Int) - 20 + (pickN d 20 : Int)) (by omega)
 have hrl := prove_len hs (pickN a 4) (pickN b 4) ((pickN c 40 : Int) - 20) ((pickN c 40 : Int) - 20 + (pickN d 20 : Int)) (by omega)
 have hrn : (proveT rs (pickN a 4) (pickN b 4) ((pickN c 40 : Int) - 20) ((pickN c 40 : Int) - 20 + (pickN d 20 : Int))).rows.length ≤ 2000 := by have h9 := ordL_len hs ((pickN a 4 : Nat) : Int) (pickN b 4); have h8 := prove_nums hs (pickN a 4) (pickN b 4) ((pickN c 40 : Int) - 20) ((pickN c 40 : Int) - 20 + (pickN d 20 : Int)) (by omega); omega
 have hfb : (fromT (ordL rs ((pickN a 4 : Nat) : Int) (pickN b 4)) (pickN b 4) ((pickN c 40 : Int) - 20)) ≤ 2000 := by have h9 := ordL_len hs ((pickN a 4 : Nat) : Int) (pickN b 4); have h8 := prove_nums hs (pickN a 4) (pickN b 4) ((pickN c 40 : Int) - 20) ((pickN c 40 : Int) - 20 + (pickN d 20 : Int)) (by omega); omega
 have hpl : (proveT rs (pickN a 4) (pickN b 4) ((pickN c 40 : Int) - 20) ((pickN c 40 : Int) - 20 + (pickN d 20 : Int))).paths.length = (proveT rs (pickN a 4) (pickN b 4) ((pickN c 40 : Int) - 20) ((pickN c 40 : Int) - 20 + (pickN d 20 : Int))).rows.length := by rw [hrl]; exact pathsT_len _ _ _
 refine Zm Y <| Zd Y rfl <| Zd Y rfl <| Ze (w_alloc zeroValue53 (cs := #[_, _, _, _, _, _, _, _, _]) rfl) ?_
 rintro _ _ ⟨ba, rfl, rfl⟩
 refine Ze (w_store_agg sizeOf53 Y Y (by first | (simp [Value.oneCell']; done) | (simp [Value.oneCell', Value.cells]; done)) (by repeat (first | exact Upd.here _ | apply Upd.there)) (by exact (rfl : _ = (#[_, _, _, _, _, _, _, _, _] : Array Value))) (by first | rfl | (simp; done)) (by first | omega | decide | (simp; done)) (by exact free_zero _)) ?_
 rintro _ _ ⟨rfl, rfl⟩
 refine Za Y <| Z0 <| Zn [0, 2, 3, 9, 10, 12, 13, 14] ?_
 refine Zx <| Zq <| Zq <| Zg <| Zm Y ?_
 first | refine op_v (p_neq_nat (n := 0) Y Y) ?_ | refine op_v (p_neq Y Y) ?_
 refine Zm Y ?_
 first | refine ops_split (t := 45) Y rfl (fun k1 => ?_) (fun k1 => ?_) | refine ops_split_bool (t := 45) Y rfl (fun k1 => ?_) (fun k1 => ?_)
 ·
  exact absurd rfl k1
 ·
  refine op_rg Y (by repeat (first | exact Has.here _ | apply Has.there)) (p_load_agg (cs := #[_, _, _, _, _, _, _, _, _]) isAgg53 sizeOf53 Y (by first | decide | exact Nat.le_refl _ | (simp; done) | (simp; omega)) (by rfl)) rfl rfl ?_
  refine Zr [_] Y call18 Y rfl (whole_spec hA) ?_
  rintro _ _ ⟨rfl, rfl⟩
  rw [decide_eq_true (show (proveT rs (pickN a 4) (pickN b 4) ((pickN c 40 : Int) - 20) ((pickN c 40 : Int) - 20 + (pickN d 20 : Int))).roots.length = 16 ∧ (proveT rs (pickN a 4) (pickN b 4) ((pickN c 40 : Int) - 20) ((pickN c 40 : Int) - 20 + (pickN d 20 : Int))).paths.length = (proveT rs (pickN a 4) (pickN b 4) ((pickN c 40 : Int) - 20) ((pickN c 40 : Int) - 20 + (pickN d 20 : Int))).rows.length from ⟨sumL_len rs, hpl⟩)]
  first | refine op_wg Y (p_not_dec Y) rfl rfl ?_ | refine op_wg Y (p_not Y) rfl rfl ?_
  refine Zv (p_pick_f Y Y) <| Z0 <| Zx ?_
  refine at_if_bool Y (fun k2 => ?_) (fun k2 => ?_)
  ·
   cases k2
  ·
   refine at_skip <| Zx <| Zq <| at_draw (n := 12) (0 :: 1 :: 0 :: 0 :: 8 :: 0 :: 32 :: 120 :: 248 :: 508 :: 1023 :: 2047 :: []) 512 (by kernel_rfl) (by kernel_rfl) rfl ?_
   first | (refine lin_v (D' := 1) 0 (p_indexAddr_arr0 (j := 2) underlying49 sizeOf3 Y Y ?_) ?_; (focus (first | omega | decide | (simp; done)))) | (refine lin_v (D' := 1) 0 (p_indexAddr_arr (j := 2) underlying49 sizeOf3 Y Y ?_) ?_; (focus (first | omega | decide | (simp; done))))
   refine Zj 3 1 rfl isAgg3 Y ?_
   refine Zi 7 2 rfl (p_move Y) ?_
   first | (refine lin_v (D' := 15) 3 (p_indexAddr_arr0 (j := 3) underlying49 sizeOf3 Y Y ?_) ?_; (focus (first | omega | decide | (simp; done)))) | (refine lin_v (D' := 15) 3 (p_indexAddr_arr (j := 3) underlying49 sizeOf3 Y Y ?_) ?_; (focus (first | omega | decide | (simp; done))))
   refine Zj 31 4 rfl isAgg3 Y ?_
   first | (refine lin_v (D' := 63) 5 (p_indexAddr_arr0 (j := 2) underlying49 sizeOf3 Y Y ?_) ?_; (focus (first | omega | decide | (simp; done)))) | (refine lin_v (D' := 63) 5 (p_indexAddr_arr (j := 2) underlying49 sizeOf3 Y Y ?_) ?_; (focus (first | omega | decide | (simp; done))))
   refine Zj 127 6 rfl isAgg3 Y ?_
   first | (refine lin_v (D' := 255) 7 (p_sub_nat Y Y ?_ ?_) ?_; (focus (first | omega | (simp; omega))); (focus (first | omega | (simp; omega)))) | (refine lin_v (D' := 255) 7 (p_sub Y Y (IntWalk.i64_in _ ?_)) ?_; (focus (first | omega | (simp; omega))))
   first | (refine lin_v (D' := 511) 8 (p_add_nat (n := 1) Y Y ?_) ?_; (focus (first | omega | (simp; omega)))) | (refine lin_v (D' := 511) 8 (p_add Y Y (IntWalk.i64_in _ ?_)) ?_; (focus (first | omega | (simp; omega))))
   refine Zz (l := [9]) ?_
   rw [show ((pickN c 40 : Int) - 20 + (pickN d 20 : Int)) - ((pickN c 40 : Int) - 20) + 1 = (((pickN d 20 + 1) : Nat) : Int) by omega]
   refine Zy 508 1023 [6, 4, 1] [false, false, true] [(1, (_, _))] rfl Y rfl rfl rfl rfl (Zu [_, _] Y call19 Y rfl (pick10 x9 (pickN d 20 + 1) (by omega) (by omega) hx91 hx92)) ?hk_1 (fun _ _ h => h.elim) ?hl_1
   case hk_1 =>
    rintro _ _ ⟨rfl, rfl⟩
    refine ⟨Zk (keep_nil), ?_⟩
    first | (refine lin_v (D' := 2047) 10 (p_add_nat Y Y ?_) ?_; (focus (first | omega | (simp; omega)))) | (refine lin_v (D' := 2047) 10 (p_add Y Y (IntWalk.i64_in _ ?_)) ?_; (focus (first | omega | (simp; omega))))
    refine Zi 4095 11 rfl (p_assign Y) <| lin_nil ?_
    refine Zn [0, 3, 9, 10, 12, 13, 15] ?_
    refine Zx <| Zq <| Zg <| Zm Y <| Zm Y ?_
    first | (refine op_v (p_indexAddr_arr0 (j := 3) underlying49 sizeOf3 Y Y ?_) ?_; (focus (first | omega | decide | (simp; done)))) | (refine op_v (p_indexAddr_arr (j := 3) underlying49 sizeOf3 Y Y ?_) ?_; (focus (first | omega | decide | (simp; done))))
    refine Zl isAgg3 Y ?_
    refine Zm Y ?_
    first | (refine op_v (p_sub_nat Y Y ?_ ?_) ?_; (focus (first | omega | (simp; omega))); (focus (first | omega | (simp; omega)))) | (refine op_v (p_sub Y Y (IntWalk.i64_in _ ?_)) ?_; (focus (first | omega | (simp; omega))))
    first | (refine op_v (p_add_nat (n := 1) Y Y ?_) ?_; (focus (first | omega | (simp; omega)))) | (refine op_v (p_add Y Y (IntWalk.i64_in _ ?_)) ?_; (focus (first | omega | (simp; omega))))
    rw [show ((pickN c 40 : Int) - 20 + (pickN d 20 : Int)) - (((pickN c 40 : Int) - 20) + (pickN x9 (pickN d 20 + 1) : Int)) + 1 = (((pickN d 20 - pickN x9 (pickN d 20 + 1) + 1) : Nat) : Int) by omega]
    refine Zr [_, _] Y call19 Y rfl (pick10 y9 (pickN d 20 - pickN x9 (pickN d 20 + 1) + 1) (by omega) (by omega) hy91 hy92) ?_
    rintro _ _ ⟨rfl, rfl⟩
    first | (refine op_v (p_add_nat Y Y ?_) ?_; (focus (first | omega | (simp; omega)))) | (refine op_v (p_add Y Y (IntWalk.i64_in _ ?_)) ?_; (focus (first | omega | (simp; omega))))
    refine Za Y <| Z0 <| Zx <| Zb [0, 9, 10, 12, 13, 15, 16] ?_
    refine at_cutB (e0 := []) (H0 := []) (fun e H => ∃ (n : Nat), (n = (proveT rs (pickN a 4) (pickN b 4) ((pickN c 40 : Int) - 20) ((pickN c 40 : Int) - 20 + (pickN d 20 : Int))).rows.length ∧ n ≤ 2000) ∧ e = [(17, .int .i64 (n : Int))] ∧ H = []) (by repeat (first | exact Pull.nil _ | (apply Pull.cons; (focus (repeat (first | exact One.here _ _ | apply One.there)))))) ?hx_2 ?hy_2
    case hx_2 =>
     refine Zg <| Zh 6 underlying53 rfl rfl sizeOf29 Y <| Zl isAgg29 Y ?_
     refine Zv (p_len_slice underlying29 Y) <| Za Y <| Z0 <| Zn [17, 0, 9, 10, 12, 13, 15, 16] ?_
     refine nx_cutB (e' := [(17, _)]) (H' := _) (by exact ⟨_, ⟨rfl, hrn⟩, rfl, rfl⟩)
    case hy_2 =>
     rintro _ _ ⟨n, ⟨hnR, hn2⟩, rfl, rfl⟩
     refine Zq <| Zg <| Za Y <| Z0 <| Zx <| Zb [18, 0, 9, 10, 12, 13, 15, 16, 17] ?_
     refine at_cutB (e0 := [(18, _)]) (H0 := []) (fun e H => ∃ (f9 : Nat), ((0 < n → f9 < n) ∧ (n = 0 → f9 = 0) ∧ (f9 = 0 ∨ ∀ r, (proveT rs (pickN a 4) (pickN b 4) ((pickN c 40 : Int) - 20) ((pickN c 40 : Int) - 20 + (pickN d 20 : Int))).rows[f9]? = some r → valN r (pickN b 4) < (((pickN c 40 : Int) - 20) + (pickN x9 (pickN d 20 + 1) : Int))) ∧ (∀ r, (proveT rs (pickN a 4) (pickN b 4) ((pickN c 40 : Int) - 20) ((pickN c 40 : Int) - 20 + (pickN d 20 : Int))).rows[f9 + 1]? = some r → (((pickN c 40 : Int) - 20) + (pickN x9 (pickN d 20 + 1) : Int)) ≤ valN r (pickN b 4))) ∧ e = [(18, .int .i64 (f9 : Int))] ∧ H = []) (by repeat (first | exact Pull.nil _ | (apply Pull.cons; (focus (repeat (first | exact One.here _ _ | apply One.there)))))) ?hx_4 ?hy_4
     case hx_4 =>
      refine at_block <| Zb [18, 0, 9, 10, 12, 13, 15, 16, 17] ?_
      refine at_loopB (e0 := [(18, _)]) (H0 := _) (n := _) (fun m e H => ∃ (f9 : Nat), m = n - f9 ∧ ((0 < n → f9 < n) ∧ (n = 0 → f9 = 0) ∧ (f9 = 0 ∨ ∀ r, (proveT rs (pickN a 4) (pickN b 4) ((pickN c 40 : Int) - 20) ((pickN c 40 : Int) - 20 + (pickN d 20 : Int))).rows[f9]? = some r → valN r (pickN b 4) < (((pickN c 40 : Int) - 20) + (pickN x9 (pickN d 20 + 1) : Int)))) ∧ e = [(18, .int .i64 (f9 : Int))] ∧ H = []) (by exact ⟨0, rfl, ⟨fun h => h, fun _ => rfl, .inl rfl⟩, rfl, rfl⟩) (by repeat (first | exact Pull.nil _ | (apply Pull.cons; (focus (repeat (first | exact One.here _ _ | apply One.there)))))) ?_
      rintro _ _ _ ⟨f9, rfl, ⟨hf1, hf2, hf3⟩, rfl, rfl⟩
      refine Zq <| Zq <| at_draw (n := 17) (0 :: 1 :: 0 :: 7 :: 15 :: 31 :: 63 :: 31 :: 159 :: 511 :: 1023 :: 31 :: 2079 :: 8191 :: 31 :: 32767 :: 65535 :: []) 8192 (by kernel_rfl) (by kernel_rfl) rfl ?_
      refine Zi 1 0 rfl (p_move Y) ?_
      first | (refine lin_v (D' := 3) 1 (p_add_nat (n := 1) Y Y ?_) ?_; (focus (first | omega | (simp; omega)))) | (refine lin_v (D' := 3) 1 (p_add Y Y (IntWalk.i64_in _ ?_)) ?_; (focus (first | omega | (simp; omega))))
      refine Zi 7 2 rfl (p_move Y) ?_
      first | refine lin_v (D' := 15) 3 (p_lss_nat Y Y) ?_ | refine lin_v (D' := 15) 3 (p_lss Y Y) ?_
      refine Zi 31 4 rfl (p_move Y) ?_
      first | refine lin_split (t := 77) Y (fun hfn => ?_) (fun hfn => ?_) | refine lin_split_bool (t := 77) Y (fun hfn => ?_) (fun hfn => ?_)
      ·
       first | rw [decide_eq_true hfn] | rw [hfn] | skip
       obtain ⟨x, hx⟩ : ∃ x, (proveT rs (pickN a 4) (pickN b 4) ((pickN c 40 : Int) - 20) ((pickN c 40 : Int) - 20 + (pickN d 20 : Int))).rows[f9 + 1]? = some x := ⟨_, List.getElem?_eq_getElem (by omega)⟩
       obtain ⟨g1, off1, cur1, T1, zz1, e1, hm1, hsz1, hex1⟩ := hgra (f9 + 1) x hx
       subst e1
       refine lin_wg (D' := 63) 5 Y rfl rfl rfl (p_fieldAddr0 (off := 6) underlying53 rfl rfl sizeOf29 Y) ?_
       refine lin_rg (D' := 127) 6 Y rfl rfl rfl (by repeat (first | exact Has.here _ | apply Has.there)) (p_load isAgg29 Y (by rfl)) ?_
       refine lin_wg (D' := 255) 7 Y rfl rfl rfl (p_move Y) ?_
       first | (refine lin_wg (D' := 511) 8 Y rfl rfl rfl (p_add_nat (n := 1) Y Y ?_) ?_; (focus (first | omega | (simp; omega)))) | (refine lin_wg (D' := 511) 8 Y rfl rfl rfl (p_add Y Y (IntWalk.i64_in _ ?_)) ?_; (focus (first | omega | (simp; omega))))
       (refine lin_wg (D' := 1023) 9 Y rfl rfl rfl (p_indexAddr_nat underlying29 sizeOf60 Y Y ?_) ?_; (focus (first | omega | decide | (simp; done))))
       refine lin_rgm (b := g1) (x := .cells cur1 T1 zz1) (D' := 2047) 10 Y rfl rfl rfl (by simp [hm1]) (p_load_agg (cs := #[.int .i64 x.t, .int .i64 x.k, .int .i64 x.v.a, .int .i64 x.v.b, .int .i64 x.v.c]) isAgg60 sizeOf60 Y (by omega) hex1) ?_
       refine lin_wg (D' := 4095) 11 Y rfl rfl rfl (p_fieldAddr0 (off := 1) underlying53 rfl rfl sizeOf3 Y) ?_
       refine lin_rg (D' := 8191) 12 Y rfl rfl rfl (by repeat (first | exact Has.here _ | apply Has.there)) (p_load isAgg3 Y (by rfl)) ?_
       refine lin_wg (D' := 24575) 14 Y rfl rfl rfl (p_move Y) ?_
       refine Zz (l := [13]) ?_
       refine Zy 8191 32767 [12, 10, 6] [false, false, false] [] rfl Y rfl rfl rfl rfl (Zu [_, _] Y call20 Y rfl (r3_value x (pickN b 4) (by omega))) ?hk_6 (fun _ _ h => h.elim) ?hl_6
       case hk_6 =>
        rintro _ _ ⟨rfl, rfl⟩
        refine ⟨keep_nil, ?_⟩
        first | refine lin_wg (D' := 65535) 15 Y rfl rfl rfl (p_lss_nat Y Y) ?_ | refine lin_wg (D' := 65535) 15 Y rfl rfl rfl (p_lss Y Y) ?_
        refine Zi 131071 16 rfl (p_pick_t Y Y) <| lin_nil ?_
        refine Zn [0, 9, 10, 12, 13, 15, 16, 17, 18, 89] ?_
        refine Zx ?_
        first | refine at_if Y (fun hval => ?_) (fun hval => ?_) | refine at_if_bool Y (fun hval => ?_) (fun hval => ?_)
        ·
         refine at_skip <| Zx <| at_block <| Zg <| Zm Y ?_
         first | (refine op_v (p_add_nat (n := 1) Y Y ?_) ?_; (focus (first | omega | (simp; omega)))) | (refine op_v (p_add Y Y (IntWalk.i64_in _ ?_)) ?_; (focus (first | omega | (simp; omega))))
         refine Za Y <| Z0 <| nx_block_normal <| Zn [18, 0, 9, 10, 12, 13, 15, 16, 17] ?_
         refine nx_againB (e' := [(18, _)]) (m := _) (H' := _) (by exact ⟨f9 + 1, rfl, ⟨fun _ => by omega, fun h => by omega, .inr (fun r hr => by rw [hx] at hr; injection hr with hr; subst hr; exact hval)⟩, rfl, rfl⟩)
        ·
         refine at_exit <| Zt <| Zt <| nx_block_exit <| Zn [18, 0, 9, 10, 12, 13, 15, 16, 17] ?_
         refine nx_cutB (e' := [(18, _)]) (H' := _) (by exact ⟨f9, ⟨hf1, hf2, hf3, fun r hr => by first | (have := (List.getElem?_eq_some_iff.1 hr).1; omega) | (rw [hx] at hr; injection hr with hr; subst hr; omega)⟩, rfl, rfl⟩)
       case hl_6 =>
        exact each_nil
      ·
       first | rw [decide_eq_false hfn] | rw [hfn] | skip
       refine lin_skip (D' := 63) 5 rfl Y rfl rfl ?_
       refine lin_skip (D' := 127) 6 rfl Y rfl rfl ?_
       refine lin_skip (D' := 255) 7 rfl Y rfl rfl ?_
       refine lin_skip (D' := 511) 8 rfl Y rfl rfl ?_
       refine lin_skip (D' := 1023) 9 rfl Y rfl rfl ?_
       refine lin_skip (D' := 2047) 10 rfl Y rfl rfl ?_
       refine lin_skip (D' := 4095) 11 rfl Y rfl rfl ?_
       refine lin_skip (D' := 8191) 12 rfl Y rfl rfl ?_
       refine lin_skip (D' := 16383) 13 rfl Y rfl rfl ?_
       refine lin_skip (D' := 32767) 14 rfl Y rfl rfl ?_
       refine lin_skip (D' := 65535) 15 rfl Y rfl rfl ?_
       refine Zi 131071 16 rfl (p_pick_f Y Y) <| lin_nil ?_
       refine Zn [0, 9, 10, 12, 13, 15, 16, 17, 18, 89] ?_
       refine Zx <| at_else Y <| at_exit <| Zt <| Zt <| nx_block_exit <| Zn [18, 0, 9, 10, 12, 13, 15, 16, 17] ?_
       refine nx_cutB (e' := [(18, _)]) (H' := _) (by exact ⟨f9, ⟨hf1, hf2, hf3, fun r hr => by first | (have := (List.getElem?_eq_some_iff.1 hr).1; omega) | (rw [hx] at hr; injection hr with hr; subst hr; omega)⟩, rfl, rfl⟩)
     case hy_4 =>
      rintro _ _ ⟨f9, ⟨hf1, hf2, hf3, hf4⟩, rfl, rfl⟩
      refine Zq <| Zg <| Zm Y <| Za Y <| Z0 <| Zx <| Zb [19, 0, 9, 10, 12, 13, 15, 16, 18] ?_
      refine at_cutB (e0 := [(19, _)]) (H0 := []) (fun e H => ∃ (t9 : Nat), (t9 ≤ n ∧ (0 < n → f9 < t9) ∧ (t9 = n ∨ ∀ r, (proveT rs (pickN a 4) (pickN b 4) ((pickN c 40 : Int) - 20) ((pickN c 40 : Int) - 20 + (pickN d 20 : Int))).rows[t9 - 1]? = some r → ((((pickN c 40 : Int) - 20) + (pickN x9 (pickN d 20 + 1) : Int)) + (pickN y9 (pickN d 20 - pickN x9 (pickN d 20 + 1) + 1) : Int)) < valN r (pickN b 4)) ∧ (∀ r, f9 + 2 ≤ t9 → (proveT rs (pickN a 4) (pickN b 4) ((pickN c 40 : Int) - 20) ((pickN c 40 : Int) - 20 + (pickN d 20 : Int))).rows[t9 - 2]? = some r → valN r (pickN b 4) ≤ ((((pickN c 40 : Int) - 20) + (pickN x9 (pickN d 20 + 1) : Int)) + (pickN y9 (pickN d 20 - pickN x9 (pickN d 20 + 1) + 1) : Int)))) ∧ e = [(19, .int .i64 (t9 : Int))] ∧ H = []) (by repeat (first | exact Pull.nil _ | (apply Pull.cons; (focus (repeat (first | exact One.here _ _ | apply One.there)))))) ?hx_10 ?hy_10
      case hx_10 =>
       refine at_block <| Zb [19, 0, 9, 10, 12, 13, 15, 16, 18] ?_
       refine at_loopB (e0 := [(19, _)]) (H0 := _) (n := _) (fun m e H => ∃ (t9 : Nat), m = 0 + t9 ∧ (t9 ≤ n ∧ (0 < n → f9 < t9) ∧ (t9 = n ∨ ∀ r, (proveT rs (pickN a 4) (pickN b 4) ((pickN c 40 : Int) - 20) ((pickN c 40 : Int) - 20 + (pickN d 20 : Int))).rows[t9 - 1]? = some r → ((((pickN c 40 : Int) - 20) + (pickN x9 (pickN d 20 + 1) : Int)) + (pickN y9 (pickN d 20 - pickN x9 (pickN d 20 + 1) + 1) : Int)) < valN r (pickN b 4))) ∧ e = [(19, .int .i64 (t9 : Int))] ∧ H = []) (by exact ⟨n, rfl, ⟨Nat.le_refl _, hf1, .inl rfl⟩, rfl, rfl⟩) (by repeat (first | exact Pull.nil _ | (apply Pull.cons; (focus (repeat (first | exact One.here _ _ | apply One.there)))))) ?_
       rintro _ _ _ ⟨t9, rfl, ⟨ht1, ht2, ht3⟩, rfl, rfl⟩
       refine Zq <| Zq <| at_draw (n := 17) (0 :: 1 :: 0 :: 7 :: 15 :: 31 :: 63 :: 31 :: 159 :: 511 :: 1023 :: 31 :: 2079 :: 8191 :: 31 :: 32767 :: 65535 :: []) 8192 (by kernel_rfl) (by kernel_rfl) rfl ?_
       refine Zi 1 0 rfl (p_move Y) ?_
       first | (refine lin_v (D' := 3) 1 (p_sub_nat (n := 2) Y Y ?_ ?_) ?_; (focus (first | omega | (simp; omega))); (focus (first | omega | (simp; omega)))) | (refine lin_v (D' := 3) 1 (p_sub Y Y (IntWalk.i64_in _ ?_)) ?_; (focus (first | omega | (simp; omega))))
       refine Zi 7 2 rfl (p_move Y) ?_
       first | refine lin_v (D' := 15) 3 (p_geq_nat Y Y) ?_ | refine lin_v (D' := 15) 3 (p_geq Y Y) ?_
       refine Zi 31 4 rfl (p_move Y) ?_
       first | refine lin_split (t := 97) Y (fun htn => ?_) (fun htn => ?_) | refine lin_split_bool (t := 97) Y (fun htn => ?_) (fun htn => ?_)
       ·
        first | rw [decide_eq_true htn] | rw [htn] | skip
        obtain ⟨x, hx⟩ : ∃ x, (proveT rs (pickN a 4) (pickN b 4) ((pickN c 40 : Int) - 20) ((pickN c 40 : Int) - 20 + (pickN d 20 : Int))).rows[t9 - 2]? = some x := ⟨_, List.getElem?_eq_getElem (by omega)⟩
        obtain ⟨g1, off1, cur1, T1, zz1, e1, hm1, hsz1, hex1⟩ := hgra (t9 - 2) x hx
        subst e1
        refine lin_wg (D' := 63) 5 Y rfl rfl rfl (p_fieldAddr0 (off := 6) underlying53 rfl rfl sizeOf29 Y) ?_
        refine lin_rg (D' := 127) 6 Y rfl rfl rfl (by repeat (first | exact Has.here _ | apply Has.there)) (p_load isAgg29 Y (by rfl)) ?_
        refine lin_wg (D' := 255) 7 Y rfl rfl rfl (p_move Y) ?_
        first | (refine lin_wg (D' := 511) 8 Y rfl rfl rfl (p_sub_nat (n := 2) Y Y ?_ ?_) ?_; (focus (first | omega | (simp; omega))); (focus (first | omega | (simp; omega)))) | (refine lin_wg (D' := 511) 8 Y rfl rfl rfl (p_sub Y Y (IntWalk.i64_in _ ?_)) ?_; (focus (first | omega | (simp; omega))))
        (refine lin_wg (D' := 1023) 9 Y rfl rfl rfl (p_indexAddr_nat underlying29 sizeOf60 Y Y ?_) ?_; (focus (first | omega | decide | (simp; done))))
        refine lin_rgm (b := g1) (x := .cells cur1 T1 zz1) (D' := 2047) 10 Y rfl rfl rfl (by simp [hm1]) (p_load_agg (cs := #[.int .i64 x.t, .int .i64 x.k, .int .i64 x.v.a, .int .i64 x.v.b, .int .i64 x.v.c]) isAgg60 sizeOf60 Y (by omega) hex1) ?_
        refine lin_wg (D' := 4095) 11 Y rfl rfl rfl (p_fieldAddr0 (off := 1) underlying53 rfl rfl sizeOf3 Y) ?_
        refine lin_rg (D' := 8191) 12 Y rfl rfl rfl (by repeat (first | exact Has.here _ | apply Has.there)) (p_load isAgg3 Y (by rfl)) ?_
        refine lin_wg (D' := 24575) 14 Y rfl rfl rfl (p_move Y) ?_
        refine Zz (l := [13]) ?_
        refine Zy 8191 32767 [12, 10, 6] [false, false, false] [] rfl Y rfl rfl rfl rfl (Zu [_, _] Y call20 Y rfl (r3_value x (pickN b 4) (by omega))) ?hk_12 (fun _ _ h => h.elim) ?hl_12
        case hk_12 =>
         rintro _ _ ⟨rfl, rfl⟩
         refine ⟨keep_nil, ?_⟩
         first | refine lin_wg (D' := 65535) 15 Y rfl rfl rfl (p_gtr_nat Y Y) ?_ | refine lin_wg (D' := 65535) 15 Y rfl rfl rfl (p_gtr Y Y) ?_
         refine Zi 131071 16 rfl (p_pick_t Y Y) <| lin_nil ?_
         refine Zn [0, 9, 10, 12, 13, 15, 16, 18, 19, 109] ?_
         refine Zx ?_
         first | refine at_if Y (fun hval => ?_) (fun hval => ?_) | refine at_if_bool Y (fun hval => ?_) (fun hval => ?_)
         ·
          refine at_skip <| Zx <| at_block <| Zg <| Zm Y ?_
          first | (refine op_v (p_sub_nat (n := 1) Y Y ?_ ?_) ?_; (focus (first | omega | (simp; omega))); (focus (first | omega | (simp; omega)))) | (refine op_v (p_sub Y Y (IntWalk.i64_in _ ?_)) ?_; (focus (first | omega | (simp; omega))))
          refine Za Y <| Z0 <| nx_block_normal <| Zn [19, 0, 9, 10, 12, 13, 15, 16, 18] ?_
          refine nx_againB (e' := [(19, _)]) (m := _) (H' := _) (by exact ⟨t9 - 1, rfl, ⟨by omega, fun _ => by omega, .inr (fun r hr => by rw [show t9 - 1 - 1 = t9 - 2 by omega, hx] at hr; injection hr with hr; subst hr; exact hval)⟩, rfl, rfl⟩)
         ·
          refine at_exit <| Zt <| Zt <| nx_block_exit <| Zn [19, 0, 9, 10, 12, 13, 15, 16, 18] ?_
          refine nx_cutB (e' := [(19, _)]) (H' := _) (by exact ⟨t9, ⟨ht1, ht2, ht3, fun r h9 hr => by first | omega | (rw [hx] at hr; injection hr with hr; subst hr; omega)⟩, rfl, rfl⟩)
        case hl_12 =>
         exact each_nil
       ·
        first | rw [decide_eq_false htn] | rw [htn] | skip
        refine lin_skip (D' := 63) 5 rfl Y rfl rfl ?_
        refine lin_skip (D' := 127) 6 rfl Y rfl rfl ?_
        refine lin_skip (D' := 255) 7 rfl Y rfl rfl ?_
        refine lin_skip (D' := 511) 8 rfl Y rfl rfl ?_
        refine lin_skip (D' := 1023) 9 rfl Y rfl rfl ?_
        refine lin_skip (D' := 2047) 10 rfl Y rfl rfl ?_
        refine lin_skip (D' := 4095) 11 rfl Y rfl rfl ?_
        refine lin_skip (D' := 8191) 12 rfl Y rfl rfl ?_
        refine lin_skip (D' := 16383) 13 rfl Y rfl rfl ?_
        refine lin_skip (D' := 32767) 14 rfl Y rfl rfl ?_
        refine lin_skip (D' := 65535) 15 rfl Y rfl rfl ?_
        refine Zi 131071 16 rfl (p_pick_f Y Y) <| lin_nil ?_
        refine Zn [0, 9, 10, 12, 13, 15, 16, 18, 19, 109] ?_
        refine Zx <| at_else Y <| at_exit <| Zt <| Zt <| nx_block_exit <| Zn [19, 0, 9, 10, 12, 13, 15, 16, 18] ?_
        refine nx_cutB (e' := [(19, _)]) (H' := _) (by exact ⟨t9, ⟨ht1, ht2, ht3, fun r h9 hr => by first | omega | (rw [hx] at hr; injection hr with hr; subst hr; omega)⟩, rfl, rfl⟩)
      case hy_10 =>
       rintro _ _ ⟨t9, ⟨ht1, ht2, ht3, ht4⟩, rfl, rfl⟩
       have hn9 : n = (toT (ordL rs ((pickN a 4 : Nat) : Int) (pickN b 4)) (pickN b 4) ((pickN c 40 : Int) - 20 + (pickN d 20 : Int))) - (fromT (ordL rs ((pickN a 4 : Nat) : Int) (pickN b 4)) (pickN b 4) ((pickN c 40 : Int) - 20)) := by rw [hnR]; exact hrl
       have hat : ∀ (i : Nat) (r : RowM), (ordL rs ((pickN a 4 : Nat) : Int) (pickN b 4))[(fromT (ordL rs ((pickN a 4 : Nat) : Int) (pickN b 4)) (pickN b 4) ((pickN c 40 : Int) - 20)) + i]? = some r → i < n → (proveT rs (pickN a 4) (pickN b 4) ((pickN c 40 : Int) - 20) ((pickN c 40 : Int) - 20 + (pickN d 20 : Int))).rows[i]? = some r := by
         intro i r hr hi
         show ((List.drop (fromT (ordL rs ((pickN a 4 : Nat) : Int) (pickN b 4)) (pickN b 4) ((pickN c 40 : Int) - 20)) (ordL rs ((pickN a 4 : Nat) : Int) (pickN b 4))).take ((toT (ordL rs ((pickN a 4 : Nat) : Int) (pickN b 4)) (pickN b 4) ((pickN c 40 : Int) - 20 + (pickN d 20 : Int))) - (fromT (ordL rs ((pickN a 4 : Nat) : Int) (pickN b 4)) (pickN b 4) ((pickN c 40 : Int) - 20))))[i]? = _
         rw [List.getElem?_take, if_pos (by omega), List.getElem?_drop]; exact hr
       have hsm : PartOk rs (pickN a 4) (pickN b 4) (((pickN c 40 : Int) - 20) + (pickN x9 (pickN d 20 + 1) : Int)) ((((pickN c 40 : Int) - 20) + (pickN x9 (pickN d 20 + 1) : Int)) + (pickN y9 (pickN d 20 - pickN x9 (pickN d 20 + 1) + 1) : Int)) ((fromT (ordL rs ((pickN a 4 : Nat) : Int) (pickN b 4)) (pickN b 4) ((pickN c 40 : Int) - 20)) + f9) ((fromT (ordL rs ((pickN a 4 : Nat) : Int) (pickN b 4)) (pickN b 4) ((pickN c 40 : Int) - 20)) + t9) := part_less hs hpo (by omega) (by omega) (by omega) (by omega) (by omega) (fun r h hr => hf4 r (hat _ r hr (by omega))) (by rcases Nat.eq_zero_or_pos n with h0 | h0; exact .inl (hf2 h0); exact hf3.imp id (fun h r hr => h r (hat _ r hr (by omega)))) (fun r h hr => ht4 r h (hat _ r hr (by omega))) (by rcases Nat.eq_zero_or_pos n with h0 | h0; exact .inl (by omega); exact ht3.imp (fun h => by omega) (fun h r hr => h r (hat _ r hr (by omega))))
       have hps := part_sub rs (pickN a 4) (pickN b 4) ((pickN c 40 : Int) - 20) ((pickN c 40 : Int) - 20 + (pickN d 20 : Int)) (((pickN c 40 : Int) - 20) + (pickN x9 (pickN d 20 + 1) : Int)) ((((pickN c 40 : Int) - 20) + (pickN x9 (pickN d 20 + 1) : Int)) + (pickN y9 (pickN d 20 - pickN x9 (pickN d 20 + 1) + 1) : Int)) (f := (fromT (ordL rs ((pickN a 4 : Nat) : Int) (pickN b 4)) (pickN b 4) ((pickN c 40 : Int) - 20))) (e := (toT (ordL rs ((pickN a 4 : Nat) : Int) (pickN b 4)) (pickN b 4) ((pickN c 40 : Int) - 20 + (pickN d 20 : Int)))) (a := f9) (b := t9) (by omega) (by omega)
       have hP9 : RPIn ma (.agg #[.int .i64 (proveT rs (pickN a 4) (pickN b 4) ((pickN c 40 : Int) - 20) ((pickN c 40 : Int) - 20 + (pickN d 20 : Int))).tb, .int .i64 (proveT rs (pickN a 4) (pickN b 4) ((pickN c 40 : Int) - 20) ((pickN c 40 : Int) - 20 + (pickN d 20 : Int))).cl, .int .i64 (((pickN c 40 : Int) - 20) + (pickN x9 (pickN d 20 + 1) : Int)), .int .i64 ((((pickN c 40 : Int) - 20) + (pickN x9 (pickN d 20 + 1) : Int)) + (pickN y9 (pickN d 20 - pickN x9 (pickN d 20 + 1) + 1) : Int)), .int .i64 (proveT rs (pickN a 4) (pickN b 4) ((pickN c 40 : Int) - 20) ((pickN c 40 : Int) - 20 + (pickN d 20 : Int))).ct, .int .i64 (((fromT (ordL rs ((pickN a 4 : Nat) : Int) (pickN b 4)) (pickN b 4) ((pickN c 40 : Int) - 20)) + f9 : Nat) : Int), .slice (cutAt qra f9 cra 5) (t9 - f9) (cra - f9), .slice (cutAt qpa f9 cpa 1) (t9 - f9) (cpa - f9), .slice qta (proveT rs (pickN a 4) (pickN b 4) ((pickN c 40 : Int) - 20) ((pickN c 40 : Int) - 20 + (pickN d 20 : Int))).roots.length cta]) (partT rs (pickN a 4) (pickN b 4) (((pickN c 40 : Int) - 20) + (pickN x9 (pickN d 20 + 1) : Int)) ((((pickN c 40 : Int) - 20) + (pickN x9 (pickN d 20 + 1) : Int)) + (pickN y9 (pickN d 20 - pickN x9 (pickN d 20 + 1) + 1) : Int)) ((fromT (ordL rs ((pickN a 4 : Nat) : Int) (pickN b 4)) (pickN b 4) ((pickN c 40 : Int) - 20)) + f9) ((fromT (ordL rs ((pickN a 4 : Nat) : Int) (pickN b 4)) (pickN b 4) ((pickN c 40 : Int) - 20)) + t9)) := ⟨_, _, _, rfl, by rw [hps.1]; exact RowsU.sub hRa (by omega) (by rw [← part_prove]; omega), by rw [hps.2]; exact PathsU.sub hPa (by omega) (by rw [← part_prove]; omega), hTa⟩
       have hp9 : ∀ l ∈ (partT rs (pickN a 4) (pickN b 4) (((pickN c 40 : Int) - 20) + (pickN x9 (pickN d 20 + 1) : Int)) ((((pickN c 40 : Int) - 20) + (pickN x9 (pickN d 20 + 1) : Int)) + (pickN y9 (pickN d 20 - pickN x9 (pickN d 20 + 1) + 1) : Int)) ((fromT (ordL rs ((pickN a 4 : Nat) : Int) (pickN b 4)) (pickN b 4) ((pickN c 40 : Int) - 20)) + f9) ((fromT (ordL rs ((pickN a 4 : Nat) : Int) (pickN b 4)) (pickN b 4) ((pickN c 40 : Int) - 20)) + t9)).paths, l.length ≤ 1000000 := fun l hl => prove_paths hs hn (pickN a 4) (pickN b 4) ((pickN c 40 : Int) - 20) ((pickN c 40 : Int) - 20 + (pickN d 20 : Int)) l (by rw [hps.2] at hl; exact List.mem_of_mem_drop (List.mem_of_mem_take hl))
       have hll : (((pickN c 40 : Int) - 20) + (pickN x9 (pickN d 20 + 1) : Int)) ≤ ((((pickN c 40 : Int) - 20) + (pickN x9 (pickN d 20 + 1) : Int)) + (pickN y9 (pickN d 20 - pickN x9 (pickN d 20 + 1) + 1) : Int)) := by omega
       refine Zq <| Zg <| Zm Y <| Zh 2 underlying53 rfl rfl sizeOf3 Y <| Ze (Zs sizeOf3 Y Y rfl) ?_
       rintro _ _ ⟨rfl, rfl⟩
       refine Z0 <| Zx <| Zq <| Zg <| Zm Y <| Zh 3 underlying53 rfl rfl sizeOf3 Y <| Ze (Zs sizeOf3 Y Y rfl) ?_
       rintro _ _ ⟨rfl, rfl⟩
       refine Z0 <| Zx <| Zq <| Zg <| Zh 5 underlying53 rfl rfl sizeOf3 Y <| Zl isAgg3 Y ?_
       refine Zm Y ?_
       first | (refine op_v (p_add_nat Y Y ?_) ?_; (focus (first | omega | (simp; omega)))) | (refine op_v (p_add Y Y (IntWalk.i64_in _ ?_)) ?_; (focus (first | omega | (simp; omega))))
       refine Zh 5 underlying53 rfl rfl sizeOf3 Y <| Ze (Zs sizeOf3 Y Y rfl) ?_
       rintro _ _ ⟨rfl, rfl⟩
       refine Z0 <| Zx <| Zq <| Zg <| Zh 6 underlying53 rfl rfl sizeOf29 Y <| Zl isAgg29 Y ?_
       refine Zm Y <| Zm Y ?_
       (refine op_v (p_slice_slice underlying29 sizeOf60 Y Y Y ?_ ?_) ?_; (focus (first | omega | decide | (simp; done))); (focus (first | omega | decide | (simp; done))))
       refine Zh 6 underlying53 rfl rfl sizeOf29 Y <| Ze (Zs sizeOf29 Y Y rfl (hi := by first | omega | decide | (simp; done))) ?_
       rintro _ _ ⟨rfl, rfl⟩
       refine Z0 <| Zn [0, 9, 10, 12, 13, 15, 16, 18, 19] ?_
       refine Zx <| Zq <| Zg <| Zh 7 underlying53 rfl rfl sizeOf51 Y <| Zl isAgg51 Y ?_
       refine Zm Y <| Zm Y ?_
       (refine op_v (p_slice_slice underlying51 sizeOf34 Y Y Y ?_ ?_) ?_; (focus (first | omega | decide | (simp; done))); (focus (first | omega | decide | (simp; done))))
       refine Zh 7 underlying53 rfl rfl sizeOf51 Y <| Ze (Zs sizeOf51 Y Y rfl (hi := by first | omega | decide | (simp; done))) ?_
       rintro _ _ ⟨rfl, rfl⟩
       refine Z0 <| Zx <| Zq <| Zg <| Zo (by repeat (first | exact Has.here _ | apply Has.there)) (p_load_agg (cs := #[_, _, _, _, _, _, _, _, _]) isAgg53 sizeOf53 Y (by first | decide | exact Nat.le_refl _ | (simp; done) | (simp; omega)) (by rfl)) ?_
       refine Zc [_] Y call21 Y rfl (rows_c hP9 (comp_part hs hn hok (pickN a 4) (pickN b 4) (by omega) (by omega) hll hsm) (part_rows hs hn hok (pickN a 4) (pickN b 4) (by omega) (by omega) hll hsm)) ?_
       rintro _ _ ⟨_, ⟨vx, sx, rfl, hx, rfl⟩, rfl⟩
       have hrl2 : (rangeL rs ((pickN a 4 : Nat) : Int) (pickN b 4) (((pickN c 40 : Int) - 20) + (pickN x9 (pickN d 20 + 1) : Int)) ((((pickN c 40 : Int) - 20) + (pickN x9 (pickN d 20 + 1) : Int)) + (pickN y9 (pickN d 20 - pickN x9 (pickN d 20 + 1) + 1) : Int))).length ≤ 2000 := by rw [(rangeL_perm rs _ _ _ _).length_eq]; exact Nat.le_trans (List.length_filter_le _ _) hn
       obtain ⟨qx, cx, rfl⟩ := hx.form
       have hUx := rowsU_row hx (by omega)
       refine Zm Y <| Zd Y rfl <| Zd Y rfl <| Za Y <| Za Y <| Z0 <| Zn [0, 9, 10, 12, 13, 15, 16, 20, 21] ?_
       refine Zx <| Zq <| at_draw (n := 31) (0 :: 1 :: 3 :: 7 :: 15 :: 31 :: 63 :: 31 :: 255 :: 511 :: 1023 :: 2047 :: 2047 :: 2047 :: 10239 :: 2047 :: 34815 :: 2047 :: 2047 :: 522239 :: 1048575 :: 2097151 :: 4194303 :: 8388607 :: 16777215 :: 8388607 :: 41943039 :: 109051903 :: 268435455 :: 536870911 :: 1073741823 :: []) 471335232 (by kernel_rfl) (by kernel_rfl) rfl ?_
       refine Zi 1 0 rfl (p_move Y) <| Zi 3 1 rfl (p_move Y) ?_
       refine lin_split_bool (t := 139) Y (fun k1 => ?_) (fun k1 => ?_)
       ·
        first | rw [decide_eq_true k1] | rw [k1] | skip
        refine lin_wg (D' := 7) 2 Y rfl rfl rfl (p_move Y) ?_
        refine Zi 15 3 rfl (p_pick_t Y Y) <| Zi 31 4 rfl (p_move Y) ?_
        refine lin_split_bool (t := 142) Y (fun k2 => ?_) (fun k2 => ?_)
        ·
         first | rw [decide_eq_true k2] | rw [k2] | skip
         refine lin_wg (D' := 63) 5 Y rfl rfl rfl (p_move Y) ?_
         refine lin_rg (D' := 191) 7 Y rfl rfl rfl (by repeat (first | exact Has.here _ | apply Has.there)) (p_load_agg (cs := #[_, _, _, _, _, _, _, _, _]) isAgg53 sizeOf53 Y (by first | omega | decide | (simp; done)) (by rfl)) ?_
         refine Zz (l := [6]) ?_
         refine Zy 63 255 [7] [true] [(7, (_, _))] rfl Y rfl rfl rfl rfl (Zu [_] Y call10 Y rfl (root_st _ _ rs _ hst hs hn hok Tg zg)) ?hk_16 (fun _ _ h => h.elim) ?hl_16
         case hk_16 =>
          rintro _ _ ⟨rfl, rfl⟩
          refine ⟨Zk (keep_nil), ?_⟩
          refine Zz (l := [8]) ?_
          refine Zy 255 511 [7] [false] [] rfl Y rfl rfl rfl rfl (Zu [_, _] Y call22 Y rfl (verify_t hP9 (prove_roots hs hn (pickN a 4) (pickN b 4) ((pickN c 40 : Int) - 20) ((pickN c 40 : Int) - 20 + (pickN d 20 : Int))) hp9 (ver_part hs hn hok (pickN a 4) (pickN b 4) (by omega) (by omega) hll hsm) Tg zg)) ?hk_17 (fun _ _ h => h.elim) ?hl_17
          case hk_17 =>
           rintro _ _ ⟨rfl, rfl⟩
           refine ⟨keep_nil, ?_⟩
           refine Zi 1023 9 rfl (p_pick_t Y Y) <| Zi 2047 10 rfl (p_move Y) ?_
           refine lin_split_bool (t := 148) Y (fun k3 => ?_) (fun k3 => ?_)
           ·
            first | rw [decide_eq_true k3] | rw [k3] | skip
            refine lin_wg (D' := 4095) 11 Y rfl rfl rfl (p_move Y) ?_
            refine lin_wg (D' := 8191) 12 Y rfl rfl rfl (p_move Y) ?_
            first | (refine lin_wg (D' := 16383) 13 Y rfl rfl rfl (p_indexAddr_arr0 (j := 0) underlying49 sizeOf3 Y Y ?_) ?_; (focus (first | omega | decide | (simp; done)))) | (refine lin_wg (D' := 16383) 13 Y rfl rfl rfl (p_indexAddr_arr (j := 0) underlying49 sizeOf3 Y Y ?_) ?_; (focus (first | omega | decide | (simp; done))))
            refine lin_rg (D' := 32767) 14 Y rfl rfl rfl (by repeat (first | exact Has.here _ | apply Has.there)) (p_load isAgg3 Y (by rfl)) ?_
            first | (refine lin_wg (D' := 65535) 15 Y rfl rfl rfl (p_indexAddr_arr0 (j := 1) underlying49 sizeOf3 Y Y ?_) ?_; (focus (first | omega | decide | (simp; done)))) | (refine lin_wg (D' := 65535) 15 Y rfl rfl rfl (p_indexAddr_arr (j := 1) underlying49 sizeOf3 Y Y ?_) ?_; (focus (first | omega | decide | (simp; done))))
            refine lin_rg (D' := 131071) 16 Y rfl rfl rfl (by repeat (first | exact Has.here _ | apply Has.there)) (p_load isAgg3 Y (by rfl)) ?_
            refine lin_wg (D' := 262143) 17 Y rfl rfl rfl (p_move Y) ?_
            refine lin_wg (D' := 524287) 18 Y rfl rfl rfl (p_move Y) ?_
            refine Zz (l := [19]) ?_
            refine Zy 522239 1048575 [16, 14] [false, false] [] rfl Y rfl rfl rfl rfl (Zw [_, _, _, _, _] Y call23 Y rfl (st_range _ _ rs _ hst ((pickN a 4 : Nat) : Int) (pickN b 4) (((pickN c 40 : Int) - 20) + (pickN x9 (pickN d 20 + 1) : Int)) ((((pickN c 40 : Int) - 20) + (pickN x9 (pickN d 20 + 1) : Int)) + (pickN y9 (pickN d 20 - pickN x9 (pickN d 20 + 1) + 1) : Int)) (by omega))) ?hk_18 no_pan ?hl_18
            case hk_18 =>
             rintro _ _ ⟨_, ⟨so, hso, rfl⟩, rfl⟩
             refine ⟨keep_nil, ?_⟩
             obtain ⟨qo, co, rfl⟩ := hso.form
             have hUo := rowsU_row hso (by omega)
             refine Zz (l := [20]) ?_
             refine Zy 1048575 2097151 [] [] [] rfl Y rfl rfl rfl rfl (Zu [_, _] Y call9 Y rfl (r4_same2 hUx hUo)) ?hk_19 (fun _ _ h => h.elim) ?hl_19
             case hk_19 =>
              rintro _ _ ⟨rfl, rfl⟩
              refine ⟨keep_nil, ?_⟩
              refine Zi 4194303 21 rfl (p_pick_t Y Y) <| Zi 8388607 22 rfl (p_move Y) ?_
              first | refine lin_split (t := 160) Y (fun k4 => ?_) (fun k4 => ?_) | refine lin_split_bool (t := 160) Y (fun k4 => ?_) (fun k4 => ?_)
              ·
               first | rw [decide_eq_true k4] | rw [k4] | skip
               refine lin_wg (D' := 16777215) 23 Y rfl rfl rfl (p_fieldAddr0 (off := 8) underlying53 rfl rfl sizeOf34 Y) ?_
               refine lin_rg (D' := 33554431) 24 Y rfl rfl rfl (by repeat (first | exact Has.here _ | apply Has.there)) (p_load isAgg34 Y (by rfl)) ?_
               refine lin_wg (D' := 67108863) 25 Y rfl rfl rfl (p_move Y) ?_
               refine Zz (l := [26]) ?_
               refine Zy 41943039 134217727 [24] [true] [(24, (_, _))] rfl Y rfl rfl rfl rfl (Zw [_] Y call26 Y rfl (state_of hX)) ?hk_20 no_pan ?hl_20
               case hk_20 =>
                rintro _ _ ⟨_, ⟨p2, rp2, w2, sv2, t1, t2, sl2, l2, hlog2, hlF2, rfl, hrw2, rfl⟩, rfl⟩
                refine ⟨Zk (keep_nil), ?_⟩
                have e2 : rowsOf l2 = rs := by rw [← rowsC_of l2, hlF2, ← hlF]; exact hrF
                rw [e2] at hrw2
                refine Zz (l := [27]) ?_
                refine Zy 109051903 268435455 [24] [true] [(24, (_, _))] rfl Y rfl rfl rfl rfl (Zw [_] Y call25 Y rfl (r10_summ rp2 p2 w2 rs sv2 hrw2 hn hs hok)) ?hk_21 no_pan ?hl_21
                case hk_21 =>
                 rintro _ _ ⟨_, ⟨so2, hso2, rfl⟩, rfl⟩
                 refine ⟨Zk (keep_nil), ?_⟩
                 have hU2 := strsU_row (rowS_eq hso2 (sumL_len rs).symm rfl) (by rw [sumL_len]; omega)
                 refine Zz (l := [28]) ?_
                 refine Zy 268435455 536870911 [24] [false] [] rfl Y rfl rfl rfl rfl (Zu [_, _] Y call24 Y rfl (r2_same2 hTa hU2)) ?hk_22 (fun _ _ h => h.elim) ?hl_22
                 case hk_22 =>
                  rintro _ _ ⟨rfl, rfl⟩
                  refine ⟨keep_nil, ?_⟩
                  refine Zi 1073741823 29 rfl (p_pick_t Y Y) <| Zi 2147483647 30 rfl (p_assign Y) <| lin_nil ?_
                  refine Zn [8] ?_
                  refine Zx <| at_ret ?_
                  refine nx_end1 rfl results4 Y (by exact ⟨congrArg Value.bool (decide_eq_true rfl), rfl⟩)
                 case hl_22 =>
                  exact each_nil
                case hl_21 =>
                 exact each_nil
               case hl_20 =>
                exact each_nil
              ·
               first | rw [decide_eq_false k4] | rw [k4] | skip
               exact absurd rfl k4
             case hl_19 =>
              exact each_nil
            case hl_18 =>
             exact each_nil
           ·
            first | rw [decide_eq_false k3] | rw [k3] | skip
            cases k3
          case hl_17 =>
           exact each_nil
         case hl_16 =>
          exact each_nil
        ·
         first | rw [decide_eq_false k2] | rw [k2] | skip
         cases k2
       ·
        first | rw [decide_eq_false k1] | rw [k1] | skip
        cases k1
   case hl_1 =>
    exact each_nil

end Go.Proofs.YtcbjoojdfelgaaaGreatDoor
