/- The law StatetreeProves. -/
import Derived.Test.YtcbjoojdfelgaaaGreatDoorEz
import Derived.Test.YtcbjoojdfelgaaaGreatDoorTr15
namespace Go.Proofs.YtcbjoojdfelgaaaGreatDoor
open Go.Proofs.Tryz
open Go Go.RowKit Gw
set_option linter.unusedVariables false
set_option linter.unusedSimpArgs false
set_option maxRecDepth 100000
attribute [local irreducible] Gw.At Gw.Nx Gw.Ops
set_option maxHeartbeats 8000000 in
theorem proves_law {M : List Chunk} {v : Value} {xs : List (List Int)} (hX : SixIn M v xs) (a b c d : Int) (ha1 : -9223372036854775808 ≤ a) (ha2 : a ≤ 9223372036854775807) (hb1 : -9223372036854775808 ≤ b) (hb2 : b ≤ 9223372036854775807) (hc1 : -9223372036854775808 ≤ c) (hc2 : c ≤ 9223372036854775807) (hd1 : -9223372036854775808 ≤ d) (hd2 : d ≤ 9223372036854775807) (Tg : TypeId) (zg : Nat × Nat) : DoesR Tryz.prog 5 #[v, .agg #[.int .i64 a, .int .i64 b, .int .i64 c, .int .i64 d]] [[(0, .cells (kTab.map u32v).toArray Tg zg)], M] (.bool true) := by
 have hml : maxLen = 9223372036854775807 := rfl
 have hp1 := pickN_lt a 4 (by decide)
 have hp2 := pickN_lt b 4 (by decide)
 have hp3 := pickN_lt c 40 (by decide)
 have hp4 := pickN_lt d 20 (by decide)
 refine spec_enter func5 rfl ntmps5 rfl ?_
 intro u R
 refine Zb [0, 1] ?_
 refine Zq <| Zg <| Ze (w_box Y (cs := #[_, _, _, _]) rfl) ?_
 rintro _ _ ⟨b1, rfl, rfl⟩
 refine Za Y <| Z0 <| Zx <| Zq <| Zg <| Zr [] Y call7 Y rfl (sane10 Tg zg) ?_
 rintro _ _ ⟨rfl, rfl⟩
 refine Za Y <| Z0 <| Zx <| Zq <| Zg <| Zm Y <| Zc [_] Y call8 Y rfl (state_spec hX) ?_
 rintro _ _ ⟨_, ⟨sp, mm, es, ck, lm, rp, w, sv, sl, l, hlog, rfl, hm, hR, hrw, rfl⟩, rfl⟩
 obtain ⟨hs, hn⟩ := hlog.all
 have hok := hlog.rowsOk l.length (Nat.le_refl _)
 rw [List.take_length] at hok
 obtain ⟨rs, hrs⟩ : ∃ rs, rs = rowsOf l := ⟨_, rfl⟩
 rw [← hrs] at hR hs hn hok hrw
 have hst : StIs (.pointer (some ⟨sp, 0, none⟩)) (l.length : Int) rs [(sp, .cells #[.map (some mm), .int .i64 (l.length : Int)] 92 (0, 0)), (mm, .map es ck)] := ⟨sp, mm, es, ck, lm, rfl, hm, hR, hs, hn, rfl⟩
 refine Zm Y <| Zd Y rfl <| Zd Y rfl <| Za Y <| Za Y <| Z0 <| Zx <| Zq <| at_join (s1 := [(sp, _)]) (s2 := [(mm, _)]) (by repeat (first | exact One.here _ _ | apply One.there)) (by repeat (first | exact One.here _ _ | apply One.there)) ?_
 refine Zg <| Zo (by repeat (first | exact Has.here _ | apply Has.there)) (p_load_agg (cs := #[_, _, _, _]) isAgg49 sizeOf49 Y (by first | decide | exact Nat.le_refl _ | (simp; done) | (simp; omega)) (by rfl)) ?_
 refine Zr [_] Y call16 Y rfl (asked_spec a b c d ha1 ha2 hb1 hb2 hc1 hc2 hd1 hd2) ?_
 rintro _ _ ⟨rfl, rfl⟩
 refine Ze (w_alloc zeroValue49 (cs := #[_, _, _, _]) rfl) ?_
 rintro _ _ ⟨by_, rfl, rfl⟩
 refine Ze (w_store_agg sizeOf49 Y Y (by first | (simp [Value.oneCell']; done) | (simp [Value.oneCell', Value.cells]; done)) (by repeat (first | exact Upd.here _ | apply Upd.there)) (by exact (rfl : _ = (#[.int .i64 (pickN a 4 : Int), .int .i64 (pickN b 4 : Int), .int .i64 ((pickN c 40 : Int) - 20), .int .i64 ((pickN c 40 : Int) - 20 + (pickN d 20 : Int))] : Array Value))) (by first | rfl | (simp; done)) (by first | decide | exact Nat.le_refl _ | (simp; done) | (simp; omega)) (by exact free_zero _)) ?_
 rintro _ _ ⟨rfl, rfl⟩
 refine Z0 <| Zn [5, 6, 8] ?_
 refine Zx <| Zq <| Zg <| Zm Y ?_
 first | (refine op_v (p_indexAddr_arr0 (j := 0) underlying49 sizeOf3 Y Y ?_) ?_; (focus (first | omega | decide | (simp; done)))) | (refine op_v (p_indexAddr_arr (j := 0) underlying49 sizeOf3 Y Y ?_) ?_; (focus (first | omega | decide | (simp; done))))
 refine Zl isAgg3 Y ?_
 first | (refine op_v (p_indexAddr_arr0 (j := 1) underlying49 sizeOf3 Y Y ?_) ?_; (focus (first | omega | decide | (simp; done)))) | (refine op_v (p_indexAddr_arr (j := 1) underlying49 sizeOf3 Y Y ?_) ?_; (focus (first | omega | decide | (simp; done))))
 refine Zl isAgg3 Y ?_
 first | (refine op_v (p_indexAddr_arr0 (j := 2) underlying49 sizeOf3 Y Y ?_) ?_; (focus (first | omega | decide | (simp; done)))) | (refine op_v (p_indexAddr_arr (j := 2) underlying49 sizeOf3 Y Y ?_) ?_; (focus (first | omega | decide | (simp; done))))
 refine Zl isAgg3 Y ?_
 first | (refine op_v (p_indexAddr_arr0 (j := 3) underlying49 sizeOf3 Y Y ?_) ?_; (focus (first | omega | decide | (simp; done)))) | (refine op_v (p_indexAddr_arr (j := 3) underlying49 sizeOf3 Y Y ?_) ?_; (focus (first | omega | decide | (simp; done))))
 refine Zl isAgg3 Y ?_
 refine Zc [_, _, _, _, _] Y call17 Y rfl (prove_spec _ _ rs _ hst hs hn hok (pickN a 4) (pickN b 4) (by omega) (by omega) ((pickN c 40 : Int) - 20) ((pickN c 40 : Int) - 20 + (pickN d 20 : Int)) (by omega) Tg zg) ?_
 rintro _ _ ⟨_, ⟨va, ma, rfl, hA, rfl⟩, rfl⟩
 obtain ⟨ra, pa, ta, rfl, hRa, hPa, hTa⟩ := id hA
 obtain ⟨qra, cra, rfl, hlra, hgra⟩ := id hRa
 obtain ⟨qpa, cpa, rfl, hlpa, hgpa⟩ := id hPa
 obtain ⟨qta, cta, rfl, hlta, hgta⟩ := id hTa
 refine Zm Y <| Zd Y rfl <| Zd Y rfl <| Ze (w_alloc zeroValue53 (cs := #[_, _, _, _, _, _, _, _, _]) rfl) ?_
 rintro _ _ ⟨ba, rfl, rfl⟩
 refine Ze (w_store_agg sizeOf53 Y Y (by first | (simp [Value.oneCell']; done) | (simp [Value.oneCell', Value.cells]; done)) (by repeat (first | exact Upd.here _ | apply Upd.there)) (by exact (rfl : _ = (#[_, _, _, _, _, _, _, _, _] : Array Value))) (by first | rfl | (simp; done)) (by first | omega | decide | (simp; done)) (by exact free_zero _)) ?_
 rintro _ _ ⟨rfl, rfl⟩
 refine Za Y <| Z0 <| Zn [5, 6, 8, 9, 10] ?_
 refine Zx <| Zq <| Zg <| Zo (by repeat (first | exact Has.here _ | apply Has.there)) (p_load_agg (cs := #[_, _, _, _, _, _, _, _, _]) isAgg53 sizeOf53 Y (by first | decide | exact Nat.le_refl _ | (simp; done) | (simp; omega)) (by rfl)) ?_
 refine Zc [_] Y call21 Y rfl (rows_c hA (comp_prove hs hn hok (pickN a 4) (pickN b 4) (by omega) (by omega) ((pickN c 40 : Int) - 20) ((pickN c 40 : Int) - 20 + (pickN d 20 : Int)) (by omega)) (rows_range hs hn hok (pickN a 4) (pickN b 4) (by omega) (by omega) ((pickN c 40 : Int) - 20) ((pickN c 40 : Int) - 20 + (pickN d 20 : Int)) (by omega))) ?_
 rintro _ _ ⟨_, ⟨vx, sx, rfl, hx, rfl⟩, rfl⟩
 have hrl : (rangeL rs ((pickN a 4 : Nat) : Int) (pickN b 4) ((pickN c 40 : Int) - 20) ((pickN c 40 : Int) - 20 + (pickN d 20 : Int))).length ≤ 2000 := by rw [(rangeL_perm rs _ _ _ _).length_eq]; exact Nat.le_trans (List.length_filter_le _ _) hn
 have hshort := rows_short hs hn hok (pickN a 4) (pickN b 4) (by omega) (by omega) ((pickN c 40 : Int) - 20) ((pickN c 40 : Int) - 20 + (pickN d 20 : Int)) (by omega)
 have hct : (proveT rs (pickN a 4) (pickN b 4) ((pickN c 40 : Int) - 20) ((pickN c 40 : Int) - 20 + (pickN d 20 : Int))).ct = ((tabL rs ((pickN a 4 : Nat) : Int)).length : Int) := congrArg (Nat.cast : Nat → Int) (ord_count hs hok (pickN a 4) (pickN b 4) (by omega))
 obtain ⟨qx, cx, rfl⟩ := hx.form
 have hUx := rowsU_row hx (by omega)
 refine Zm Y <| Zd Y rfl <| Zd Y rfl <| Za Y <| Za Y <| Z0 <| Zx <| Zq <| at_draw (n := 48) (0 :: 1 :: 3 :: 7 :: 15 :: 31 :: 63 :: 127 :: 255 :: 511 :: 511 :: 511 :: 2559 :: 511 :: 8703 :: 511 :: 33279 :: 511 :: 131583 :: 523775 :: 1048575 :: 2097151 :: 4194303 :: 8388607 :: 16777215 :: 8388607 :: 67108863 :: 134217727 :: 268435455 :: 536870911 :: 1073741823 :: 536870911 :: 536870911 :: 4831838207 :: 15569256447 :: 32749125631 :: 68719476735 :: 137438953471 :: 274877906943 :: 549755813887 :: 1099511627775 :: 2199023255551 :: 549755813887 :: 4947802324991 :: 13743895347199 :: 35184372088831 :: 70368744177663 :: 140737488355327 :: []) 17265328128 (by kernel_rfl) (by kernel_rfl) rfl ?_
 refine Zi 1 0 rfl (p_move Y) <| Zi 3 1 rfl (p_move Y) ?_
 refine lin_split_bool (t := 40) Y (fun k1 => ?_) (fun k1 => ?_)
 ·
  first | rw [decide_eq_true k1] | rw [k1] | skip
  refine lin_wg (D' := 7) 2 Y rfl rfl rfl (p_move Y) ?_
  first | refine lin_wg (D' := 15) 3 Y rfl rfl rfl (p_eql_nat (n := 0) Y Y) ?_ | refine lin_wg (D' := 15) 3 Y rfl rfl rfl (p_eql Y Y) ?_
  refine Zi 31 4 rfl (p_pick_t Y Y) <| Zi 63 5 rfl (p_move Y) ?_
  first | refine lin_split (t := 44) Y (fun k2 => ?_) (fun k2 => ?_) | refine lin_split_bool (t := 44) Y (fun k2 => ?_) (fun k2 => ?_)
  ·
   first | rw [decide_eq_true k2] | rw [k2] | skip
   refine lin_wg (D' := 127) 6 Y rfl rfl rfl (p_move Y) ?_
   refine Zi 255 7 rfl (p_pick_t Y Y) <| Zi 511 8 rfl (p_move Y) ?_
   refine lin_split_bool (t := 47) Y (fun k3 => ?_) (fun k3 => ?_)
   ·
    first | rw [decide_eq_true k3] | rw [k3] | skip
    refine lin_wg (D' := 1023) 9 Y rfl rfl rfl (p_move Y) ?_
    refine lin_wg (D' := 2047) 10 Y rfl rfl rfl (p_move Y) ?_
    first | (refine lin_wg (D' := 4095) 11 Y rfl rfl rfl (p_indexAddr_arr0 (j := 0) underlying49 sizeOf3 Y Y ?_) ?_; (focus (first | omega | decide | (simp; done)))) | (refine lin_wg (D' := 4095) 11 Y rfl rfl rfl (p_indexAddr_arr (j := 0) underlying49 sizeOf3 Y Y ?_) ?_; (focus (first | omega | decide | (simp; done))))
    refine lin_rg (D' := 8191) 12 Y rfl rfl rfl (by repeat (first | exact Has.here _ | apply Has.there)) (p_load isAgg3 Y (by rfl)) ?_
    first | (refine lin_wg (D' := 16383) 13 Y rfl rfl rfl (p_indexAddr_arr0 (j := 1) underlying49 sizeOf3 Y Y ?_) ?_; (focus (first | omega | decide | (simp; done)))) | (refine lin_wg (D' := 16383) 13 Y rfl rfl rfl (p_indexAddr_arr (j := 1) underlying49 sizeOf3 Y Y ?_) ?_; (focus (first | omega | decide | (simp; done))))
    refine lin_rg (D' := 32767) 14 Y rfl rfl rfl (by repeat (first | exact Has.here _ | apply Has.there)) (p_load isAgg3 Y (by rfl)) ?_
    first | (refine lin_wg (D' := 65535) 15 Y rfl rfl rfl (p_indexAddr_arr0 (j := 2) underlying49 sizeOf3 Y Y ?_) ?_; (focus (first | omega | decide | (simp; done)))) | (refine lin_wg (D' := 65535) 15 Y rfl rfl rfl (p_indexAddr_arr (j := 2) underlying49 sizeOf3 Y Y ?_) ?_; (focus (first | omega | decide | (simp; done))))
    refine lin_rg (D' := 131071) 16 Y rfl rfl rfl (by repeat (first | exact Has.here _ | apply Has.there)) (p_load isAgg3 Y (by rfl)) ?_
    first | (refine lin_wg (D' := 262143) 17 Y rfl rfl rfl (p_indexAddr_arr0 (j := 3) underlying49 sizeOf3 Y Y ?_) ?_; (focus (first | omega | decide | (simp; done)))) | (refine lin_wg (D' := 262143) 17 Y rfl rfl rfl (p_indexAddr_arr (j := 3) underlying49 sizeOf3 Y Y ?_) ?_; (focus (first | omega | decide | (simp; done))))
    refine lin_rg (D' := 524287) 18 Y rfl rfl rfl (by repeat (first | exact Has.here _ | apply Has.there)) (p_load isAgg3 Y (by rfl)) ?_
    refine Zz (l := [19]) ?_
    refine Zy 523775 1048575 [18, 16, 14, 12] [false, false, false, false] [] rfl Y rfl rfl rfl rfl (Zw [_, _, _, _, _] Y call23 Y rfl (st_range _ _ rs _ hst ((pickN a 4 : Nat) : Int) (pickN b 4) ((pickN c 40 : Int) - 20) ((pickN c 40 : Int) - 20 + (pickN d 20 : Int)) (by omega))) ?hk_1 no_pan ?hl_1
    case hk_1 =>
     rintro _ _ ⟨_, ⟨so, hso, rfl⟩, rfl⟩
     refine ⟨keep_nil, ?_⟩
     obtain ⟨qo, co, rfl⟩ := hso.form
     have hUo := rowsU_row hso (by omega)
     refine Zz (l := [20]) ?_
     refine Zy 1048575 2097151 [] [] [] rfl Y rfl rfl rfl rfl (Zu [_, _] Y call9 Y rfl (r4_same2 hUx hUo)) ?hk_2 (fun _ _ h => h.elim) ?hl_2
     case hk_2 =>
      rintro _ _ ⟨rfl, rfl⟩
      refine ⟨keep_nil, ?_⟩
      refine Zi 4194303 21 rfl (p_pick_t Y Y) <| Zi 8388607 22 rfl (p_move Y) ?_
      first | refine lin_split (t := 61) Y (fun k4 => ?_) (fun k4 => ?_) | refine lin_split_bool (t := 61) Y (fun k4 => ?_) (fun k4 => ?_)
      ·
       first | rw [decide_eq_true k4] | rw [k4] | skip
       refine lin_wg (D' := 16777215) 23 Y rfl rfl rfl (p_move Y) ?_
       refine lin_rg (D' := 50331647) 25 Y rfl rfl rfl (by repeat (first | exact Has.here _ | apply Has.there)) (p_load_agg (cs := #[_, _, _, _, _, _, _, _, _]) isAgg53 sizeOf53 Y (by first | omega | decide | (simp; done)) (by rfl)) ?_
       refine Zz (l := [24]) ?_
       refine Zy 16777215 67108863 [25] [true] [(25, (_, _))] rfl Y rfl rfl rfl rfl (Zu [_] Y call10 Y rfl (root_st _ _ rs _ hst hs hn hok Tg zg)) ?hk_3 (fun _ _ h => h.elim) ?hl_3
       case hk_3 =>
        rintro _ _ ⟨rfl, rfl⟩
        refine ⟨Zk (keep_nil), ?_⟩
        refine Zz (l := [26]) ?_
        refine Zy 67108863 134217727 [25] [false] [] rfl Y rfl rfl rfl rfl (Zu [_, _] Y call22 Y rfl (verify_t hA (prove_roots hs hn _ _ _ _) (prove_paths hs hn _ _ _ _) (ver_prove hs hn hok (pickN a 4) (pickN b 4) (by omega) (by omega) ((pickN c 40 : Int) - 20) ((pickN c 40 : Int) - 20 + (pickN d 20 : Int)) (by omega)) Tg zg)) ?hk_4 (fun _ _ h => h.elim) ?hl_4
        case hk_4 =>
         rintro _ _ ⟨rfl, rfl⟩
         refine ⟨keep_nil, ?_⟩
         refine Zi 268435455 27 rfl (p_pick_t Y Y) <| Zi 536870911 28 rfl (p_move Y) ?_
         refine lin_split_bool (t := 67) Y (fun k5 => ?_) (fun k5 => ?_)
         ·
          first | rw [decide_eq_true k5] | rw [k5] | skip
          refine lin_wg (D' := 1073741823) 29 Y rfl rfl rfl (p_fieldAddr0 (off := 4) underlying53 rfl rfl sizeOf3 Y) ?_
          refine lin_rg (D' := 2147483647) 30 Y rfl rfl rfl (by repeat (first | exact Has.here _ | apply Has.there)) (p_load isAgg3 Y (by rfl)) ?_
          refine lin_wg (D' := 4294967295) 31 Y rfl rfl rfl (p_move Y) ?_
          first | (refine lin_wg (D' := 8589934591) 32 Y rfl rfl rfl (p_indexAddr_arr0 (j := 0) underlying49 sizeOf3 Y Y ?_) ?_; (focus (first | omega | decide | (simp; done)))) | (refine lin_wg (D' := 8589934591) 32 Y rfl rfl rfl (p_indexAddr_arr (j := 0) underlying49 sizeOf3 Y Y ?_) ?_; (focus (first | omega | decide | (simp; done))))
          refine lin_rg (D' := 17179869183) 33 Y rfl rfl rfl (by repeat (first | exact Has.here _ | apply Has.there)) (p_load isAgg3 Y (by rfl)) ?_
          refine Zz (l := [34]) ?_
          refine Zy 15569256447 34359738367 [33, 30] [false, true] [(30, (_, _))] rfl Y rfl rfl rfl rfl (Zw [_, _] Y call27 Y rfl (st_rows _ _ rs _ hst ((pickN a 4 : Nat) : Int))) ?hk_5 no_pan ?hl_5
          case hk_5 =>
           rintro _ _ ⟨_, ⟨sr, hsr, rfl⟩, rfl⟩
           refine ⟨Zk (keep_nil), ?_⟩
           obtain ⟨qr9, cr9, rfl⟩ := hsr.form
           refine lin_wg (D' := 68719476735) 35 Y rfl rfl rfl (p_len_slice underlying29 Y) ?_
           first | refine lin_wg (D' := 137438953471) 36 Y rfl rfl rfl (p_eql_nat Y Y) ?_ | refine lin_wg (D' := 137438953471) 36 Y rfl rfl rfl (p_eql Y Y) ?_
           refine Zi 274877906943 37 rfl (p_pick_t Y Y) <| Zi 549755813887 38 rfl (p_move Y) ?_
           first | refine lin_split (t := 77) Y (fun k6 => ?_) (fun k6 => ?_) | refine lin_split_bool (t := 77) Y (fun k6 => ?_) (fun k6 => ?_)
           ·
            first | rw [decide_eq_true k6] | rw [k6] | skip
            refine lin_wg (D' := 1099511627775) 39 Y rfl rfl rfl (p_fieldAddr0 (off := 6) underlying53 rfl rfl sizeOf29 Y) ?_
            refine lin_rg (D' := 2199023255551) 40 Y rfl rfl rfl (by repeat (first | exact Has.here _ | apply Has.there)) (p_load isAgg29 Y (by rfl)) ?_
            refine lin_wg (D' := 4398046511103) 41 Y rfl rfl rfl (p_len_slice underlying29 Y) ?_
            refine lin_wg (D' := 8796093022207) 42 Y rfl rfl rfl (p_move Y) ?_
            refine lin_wg (D' := 17592186044415) 43 Y rfl rfl rfl (p_len_slice underlying29 Y) ?_
            first | (refine lin_wg (D' := 35184372088831) 44 Y rfl rfl rfl (p_add_nat (n := 2) Y Y ?_) ?_; (focus (first | omega | (simp; omega)))) | (refine lin_wg (D' := 35184372088831) 44 Y rfl rfl rfl (p_add Y Y (IntWalk.i64_in _ ?_)) ?_; (focus (first | omega | (simp; omega))))
            first | refine lin_wg (D' := 70368744177663) 45 Y rfl rfl rfl (p_leq_nat Y Y) ?_ | refine lin_wg (D' := 70368744177663) 45 Y rfl rfl rfl (p_leq Y Y) ?_
            refine Zi 140737488355327 46 rfl (p_pick_t Y Y) <| Zi 281474976710655 47 rfl (p_assign Y) <| lin_nil ?_
            refine Zn [4] ?_
            refine Zx <| at_ret ?_
            refine nx_end1 rfl results5 Y (by exact ⟨congrArg Value.bool (decide_eq_true (by omega)), rfl⟩)
           ·
            first | rw [decide_eq_false k6] | rw [k6] | skip
            first | exact absurd hct k6 | exact absurd (ord_count hs hok (pickN a 4) (pickN b 4) (by omega)) k6
          case hl_5 =>
           exact each_nil
         ·
          first | rw [decide_eq_false k5] | rw [k5] | skip
          cases k5
        case hl_4 =>
         exact each_nil
       case hl_3 =>
        exact each_nil
      ·
       first | rw [decide_eq_false k4] | rw [k4] | skip
       exact absurd rfl k4
     case hl_2 =>
      exact each_nil
    case hl_1 =>
     exact each_nil
   ·
    first | rw [decide_eq_false k3] | rw [k3] | skip
    cases k3
  ·
   first | rw [decide_eq_false k2] | rw [k2] | skip
   exact absurd rfl k2
 ·
  first | rw [decide_eq_false k1] | rw [k1] | skip
  cases k1

end Go.Proofs.YtcbjoojdfelgaaaGreatDoor
