/- The law StatetreeColumns. -/
import Derived.Test.YtcbjoojdfelgaaaGreatDoorEz
import Derived.Test.YtcbjoojdfelgaaaGreatDoorTr14
namespace Go.Proofs.YtcbjoojdfelgaaaGreatDoor
open Go.Proofs.Tryz
open Go Go.RowKit Gw
set_option linter.unusedVariables false
set_option linter.unusedSimpArgs false
set_option maxRecDepth 100000
attribute [local irreducible] Gw.At Gw.Nx Gw.Ops
theorem row_in {rs : List RowM} (hok : ∀ r ∈ rs, r.ok) {r : RowM} (hr : r ∈ rs) (c : Nat) : -1000000000 ≤ valN r c ∧ valN r c ≤ 1000000000 := by
  obtain ⟨⟨h1, h2, h3⟩, h4, h5⟩ := hok r hr
  unfold inV at h1 h2 h3
  unfold valN
  split
  · omega
  · split
    · omega
    · split <;> omega
theorem ord_perm {rs : List RowM} (hok : ∀ r ∈ rs, r.ok) (t c : Nat) : (rangeL rs (t : Int) c (-1000000000) 1000000000).Perm (tabL rs (t : Int)) := by
  refine (rangeL_perm rs (t : Int) c _ _).trans (List.Perm.of_eq (List.filter_congr ?_))
  intro r hr
  exact decide_eq_decide.2 ⟨fun h => h.1, fun h => ⟨h, row_in hok hr c⟩⟩
theorem keys_tab {rs : List RowM} (hs : SortedR rs) (hok : ∀ r ∈ rs, r.ok) (t : Nat) : rangeL rs (t : Int) 0 1 1000000 = tabL rs (t : Int) := by
  refine tab_one hs ((rangeL_perm rs (t : Int) 0 _ _).trans (List.Perm.of_eq (List.filter_congr ?_))) (rangeL_sorted hs (t : Int) 0 1 1000000)
  intro r hr
  obtain ⟨_, _, h5⟩ := hok r hr
  exact decide_eq_decide.2 ⟨fun h => h.1, fun h => ⟨h, h5⟩⟩
theorem tab_keys {rs : List RowM} (hs : SortedR rs) (t : Int) : (tabL rs t).Pairwise (fun a b => a.k < b.k) := one_table hs fun r h => of_decide_eq_true h
theorem r4_same2 {M M' : List Chunk} {va vb : Value} {a b : List RowM} (ha : RowsU M va a) (hb : RowsU M' vb b) : DoesR Tryz.prog 9 #[va, vb] [M, M'] (.bool (decide (a = b))) := by
  refine does_re (r4_same (ha.mono (fun c hc => List.mem_append_left M' hc)) (hb.mono (fun c hc => List.mem_append_right M hc))) (by simp) ?_
  rintro r H' ⟨rfl, rfl⟩
  exact ⟨_, ⟨rfl, rfl⟩, by simp⟩
theorem r2_same2 {M M' : List Chunk} {va vb : Value} {a b : List Bs} (ha : StrsU M va a) (hb : StrsU M' vb b) : DoesR Tryz.prog 24 #[va, vb] [M, M'] (.bool (decide (a = b))) := by
  refine does_re (r2_same (ha.mono (fun c hc => List.mem_append_left M' hc)) (hb.mono (fun c hc => List.mem_append_right M hc))) (by simp) ?_
  rintro r H' ⟨rfl, rfl⟩
  exact ⟨_, ⟨rfl, rfl⟩, by simp⟩

set_option maxHeartbeats 8000000 in
theorem columns_law {M : List Chunk} {v : Value} {xs : List (List Int)} (hX : SixIn M v xs) (tb one two : Int) (htb1 : -9223372036854775808 ≤ tb) (htb2 : tb ≤ 9223372036854775807) (hone1 : -9223372036854775808 ≤ one) (hone2 : one ≤ 9223372036854775807) (htwo1 : -9223372036854775808 ≤ two) (htwo2 : two ≤ 9223372036854775807) (Tg : TypeId) (zg : Nat × Nat) : DoesR Tryz.prog 6 #[v, .int .i64 tb, .int .i64 one, .int .i64 two] [[(0, .cells (kTab.map u32v).toArray Tg zg)], M] (.bool true) := by
 have hml : maxLen = 9223372036854775807 := rfl
 have hp1 := pickN_lt tb 4 (by decide)
 have hp2 := pickN_lt one 4 (by decide)
 have hp3 := pickN_lt two 4 (by decide)
 refine spec_enter func6 rfl ntmps6 rfl ?_
 intro u R
 refine Zb [0, 1, 2, 3] ?_
 refine Zq <| Zg <| Za Y <| Z0 <| Zx <| Zq <| Zg <| Zr [] Y call7 Y rfl (sane10 Tg zg) ?_
 rintro _ _ ⟨rfl, rfl⟩
 refine Za Y <| Z0 <| Zx <| Zq <| Zg <| Zm Y <| Zc [_] Y call8 Y rfl (state_spec hX) ?_
 rintro _ _ ⟨_, ⟨sp, mm, es, ck, lm, rp, w, sv, sl, l, hlog, rfl, hm, hR, hrw, rfl⟩, rfl⟩
 obtain ⟨hs, hn⟩ := hlog.all
 have hok := hlog.rowsOk l.length (Nat.le_refl _)
 rw [List.take_length] at hok
 obtain ⟨rs, hrs⟩ : ∃ rs, rs = rowsOf l := ⟨_, rfl⟩
 rw [← hrs] at hR hs hn hok hrw
 have hst : StIs (.pointer (some ⟨sp, 0, none⟩)) (l.length : Int) rs [(sp, .cells #[.map (some mm), .int .i64 (l.length : Int)] 92 (0, 0)), (mm, .map es ck)] := ⟨sp, mm, es, ck, lm, rfl, hm, hR, hs, hn, rfl⟩
 refine Zm Y <| Zd Y rfl <| Zd Y rfl <| Za Y <| Za Y <| Z0 <| Zx <| Zq <| at_join (s1 := [(sp, _)]) (s2 := [(mm, _)]) (by repeat (first | exact One.here _ _ | apply One.there)) (by repeat (first | exact One.here _ _ | apply One.there)) ?_
 refine Zg <| Zm Y <| Zr [_, _] Y call19 Y rfl (pick10 tb 4 (by decide) (by decide) htb1 htb2) ?_
 rintro _ _ ⟨rfl, rfl⟩
 refine Za Y <| Z0 <| Zn [2, 3, 9, 10, 12] ?_
 refine Zx <| Zq <| Zg <| Zm Y <| Zm Y <| Zm Y <| Zr [_, _] Y call19 Y rfl (pick10 one 4 (by decide) (by decide) hone1 hone2) ?_
 rintro _ _ ⟨rfl, rfl⟩
 refine Zc [_, _, _, _, _] Y call17 Y rfl (prove_spec _ _ rs _ hst hs hn hok (pickN tb 4) (pickN one 4) (by omega) (by omega) (-1000000000) 1000000000 (by decide) Tg zg) ?_
 rintro _ _ ⟨_, ⟨va, ma, rfl, hA, rfl⟩, rfl⟩
 obtain ⟨ra, pa, ta, rfl, hRa, hPa, hTa⟩ := id hA
 obtain ⟨qra, cra, rfl, hlra, hgra⟩ := id hRa
 obtain ⟨qpa, cpa, rfl, hlpa, hgpa⟩ := id hPa
 obtain ⟨qta, cta, rfl, hlta, hgta⟩ := id hTa
 refine Zm Y <| Zd Y rfl <| Zd Y rfl <| Ze (w_alloc zeroValue53 (cs := #[_, _, _, _, _, _, _, _, _]) rfl) ?_
 rintro _ _ ⟨ba, rfl, rfl⟩
 refine Ze (w_store_agg sizeOf53 Y Y (by first | (simp [Value.oneCell']; done) | (simp [Value.oneCell', Value.cells]; done)) (by repeat (first | exact Upd.here _ | apply Upd.there)) (by exact (rfl : _ = (#[_, _, _, _, _, _, _, _, _] : Array Value))) (by first | rfl | (simp; done)) (by first | decide | exact Nat.le_refl _ | (simp; done) | (simp; omega)) (by exact free_zero _)) ?_
 rintro _ _ ⟨rfl, rfl⟩
 refine Za Y <| Z0 <| Zx <| Zq <| Zg <| Zm Y <| Zm Y <| Zm Y <| Zr [_, _] Y call19 Y rfl (pick10 two 4 (by decide) (by decide) htwo1 htwo2) ?_
 rintro _ _ ⟨rfl, rfl⟩
 refine Zc [_, _, _, _, _] Y call17 Y rfl (prove_spec _ _ rs _ hst hs hn hok (pickN tb 4) (pickN two 4) (by omega) (by omega) (-1000000000) 1000000000 (by decide) Tg zg) ?_
 rintro _ _ ⟨_, ⟨vb, mb, rfl, hB, rfl⟩, rfl⟩
 obtain ⟨rb, pb, tb, rfl, hRb, hPb, hTb⟩ := id hB
 obtain ⟨qrb, crb, rfl, hlrb, hgrb⟩ := id hRb
 obtain ⟨qpb, cpb, rfl, hlpb, hgpb⟩ := id hPb
 obtain ⟨qtb, ctb, rfl, hltb, hgtb⟩ := id hTb
 refine Zm Y <| Zd Y rfl <| Zd Y rfl <| Ze (w_alloc zeroValue53 (cs := #[_, _, _, _, _, _, _, _, _]) rfl) ?_
 rintro _ _ ⟨bb, rfl, rfl⟩
 refine Ze (w_store_agg sizeOf53 Y Y (by first | (simp [Value.oneCell']; done) | (simp [Value.oneCell', Value.cells]; done)) (by repeat (first | exact Upd.here _ | apply Upd.there)) (by exact (rfl : _ = (#[_, _, _, _, _, _, _, _, _] : Array Value))) (by first | rfl | (simp; done)) (by first | decide | exact Nat.le_refl _ | (simp; done) | (simp; omega)) (by exact free_zero _)) ?_
 rintro _ _ ⟨rfl, rfl⟩
 refine Za Y <| Z0 <| Zn [9, 10, 12, 13, 14, 15, 16] ?_
 refine Zx <| Zq <| Zg <| Zm Y <| Zm Y <| Zc [_, _, _, _, _] Y call17 Y rfl (prove_spec _ _ rs _ hst hs hn hok (pickN tb 4) 0 (by omega) (by omega) 1 1000000 (by decide) Tg zg) ?_
 rintro _ _ ⟨_, ⟨vc, mc, rfl, hC, rfl⟩, rfl⟩
 obtain ⟨rc, pc, tc, rfl, hRc, hPc, hTc⟩ := id hC
 obtain ⟨qrc, crc, rfl, hlrc, hgrc⟩ := id hRc
 obtain ⟨qpc, cpc, rfl, hlpc, hgpc⟩ := id hPc
 obtain ⟨qtc, ctc, rfl, hltc, hgtc⟩ := id hTc
 refine Zm Y <| Zd Y rfl <| Zd Y rfl <| Ze (w_alloc zeroValue53 (cs := #[_, _, _, _, _, _, _, _, _]) rfl) ?_
 rintro _ _ ⟨bc, rfl, rfl⟩
 refine Ze (w_store_agg sizeOf53 Y Y (by first | (simp [Value.oneCell']; done) | (simp [Value.oneCell', Value.cells]; done)) (by repeat (first | exact Upd.here _ | apply Upd.there)) (by exact (rfl : _ = (#[_, _, _, _, _, _, _, _, _] : Array Value))) (by first | rfl | (simp; done)) (by first | decide | exact Nat.le_refl _ | (simp; done) | (simp; omega)) (by exact free_zero _)) ?_
 rintro _ _ ⟨rfl, rfl⟩
 refine Za Y <| Z0 <| Zx <| Zq <| Zg <| Zo (by repeat (first | exact Has.here _ | apply Has.there)) (p_load_agg (cs := #[_, _, _, _, _, _, _, _, _]) isAgg53 sizeOf53 Y (by first | decide | exact Nat.le_refl _ | (simp; done) | (simp; omega)) (by rfl)) ?_
 refine Zc [_] Y call21 Y rfl (rows_c hA (comp_prove hs hn hok (pickN tb 4) (pickN one 4) (by omega) (by omega) (-1000000000) 1000000000 (by decide)) (rows_range hs hn hok (pickN tb 4) (pickN one 4) (by omega) (by omega) (-1000000000) 1000000000 (by decide))) ?_
 rintro _ _ ⟨_, ⟨vx, sx, rfl, hx, rfl⟩, rfl⟩
 have hpx := ord_perm hok (pickN tb 4) (pickN one 4)
 have hca : (proveT rs (pickN tb 4) (pickN one 4) (-1000000000) 1000000000).ct = ((tabL rs (((pickN tb 4) : Nat) : Int)).length : Int) := congrArg (Nat.cast : Nat → Int) hpx.length_eq
 have hoa : (ordL rs (((pickN tb 4) : Nat) : Int) (pickN one 4)).length = (tabL rs (((pickN tb 4) : Nat) : Int)).length := hpx.length_eq
 obtain ⟨la, hla⟩ : ∃ l, l = rangeL rs (((pickN tb 4) : Nat) : Int) (pickN one 4) (-1000000000) 1000000000 := ⟨_, rfl⟩
 rw [← hla] at hx hpx
 have hlx := hpx.length_eq
 refine Zm Y <| Zd Y rfl <| Zd Y rfl <| Za Y <| Za Y <| Z0 <| Zn [9, 10, 12, 13, 14, 15, 16, 17, 18, 19, 20] ?_
 refine Zx <| Zq <| Zg <| Zo (by repeat (first | exact Has.here _ | apply Has.there)) (p_load_agg (cs := #[_, _, _, _, _, _, _, _, _]) isAgg53 sizeOf53 Y (by first | decide | exact Nat.le_refl _ | (simp; done) | (simp; omega)) (by rfl)) ?_
 refine Zc [_] Y call21 Y rfl (rows_c hB (comp_prove hs hn hok (pickN tb 4) (pickN two 4) (by omega) (by omega) (-1000000000) 1000000000 (by decide)) (rows_range hs hn hok (pickN tb 4) (pickN two 4) (by omega) (by omega) (-1000000000) 1000000000 (by decide))) ?_
 rintro _ _ ⟨_, ⟨vy, sy, rfl, hy, rfl⟩, rfl⟩
 have hpy := ord_perm hok (pickN tb 4) (pickN two 4)
 have hcb : (proveT rs (pickN tb 4) (pickN two 4) (-1000000000) 1000000000).ct = ((tabL rs (((pickN tb 4) : Nat) : Int)).length : Int) := congrArg (Nat.cast : Nat → Int) hpy.length_eq
 have hob : (ordL rs (((pickN tb 4) : Nat) : Int) (pickN two 4)).length = (tabL rs (((pickN tb 4) : Nat) : Int)).length := hpy.length_eq
 obtain ⟨lb, hlb⟩ : ∃ l, l = rangeL rs (((pickN tb 4) : Nat) : Int) (pickN two 4) (-1000000000) 1000000000 := ⟨_, rfl⟩
 rw [← hlb] at hy hpy
 have hly := hpy.length_eq
 refine Zm Y <| Zd Y rfl <| Zd Y rfl <| Za Y <| Za Y <| Z0 <| Zx <| Zq <| Zg <| Zo (by repeat (first | exact Has.here _ | apply Has.there)) (p_load_agg (cs := #[_, _, _, _, _, _, _, _, _]) isAgg53 sizeOf53 Y (by first | decide | exact Nat.le_refl _ | (simp; done) | (simp; omega)) (by rfl)) ?_
 refine Zc [_] Y call21 Y rfl (rows_c hC (comp_prove hs hn hok (pickN tb 4) 0 (by omega) (by omega) 1 1000000 (by decide)) ((rows_range hs hn hok (pickN tb 4) 0 (by omega) (by omega) 1 1000000 (by decide)).trans (keys_tab hs hok (pickN tb 4)))) ?_
 rintro _ _ ⟨_, ⟨vz, sz, rfl, hz, rfl⟩, rfl⟩
 have hkk := tab_keys hs (((pickN tb 4) : Nat) : Int)
 have hpl : (tabL rs (((pickN tb 4) : Nat) : Int)).length ≤ 2000 := Nat.le_trans (List.length_filter_le _ _) hn
 obtain ⟨lk, hlk⟩ : ∃ l, l = tabL rs (((pickN tb 4) : Nat) : Int) := ⟨_, rfl⟩
 rw [← hlk] at hz hkk hlx hly hca hcb hpl hpx hpy hoa hob
 obtain ⟨qx, cx, rfl⟩ := hx.form
 have hUx := rowsU_row hx (by omega)
 obtain ⟨p9, cap9, e9, hlx9, hgx9⟩ := id hUx
 injection e9 with e91 e92 e93
 subst e91 e93
 obtain ⟨qy, cy, rfl⟩ := hy.form
 have hUy := rowsU_row hy (by omega)
 obtain ⟨p9, cap9, e9, hly9, hgy9⟩ := id hUy
 injection e9 with e91 e92 e93
 subst e91 e93
 obtain ⟨qz, cz, rfl⟩ := hz.form
 have hUz := rowsU_row hz (by omega)
 obtain ⟨p9, cap9, e9, hlz9, hgz9⟩ := id hUz
 injection e9 with e91 e92 e93
 subst e91 e93
 refine Zm Y <| Zd Y rfl <| Zd Y rfl <| Za Y <| Za Y <| Z0 <| Zn [9, 10, 12, 13, 14, 15, 16, 18, 19, 20, 21, 22, 23, 24] ?_
 refine Zx <| Zq <| Zq <| Zg <| Zm Y ?_
 first | refine op_v (p_neq_nat (n := 0) Y Y) ?_ | refine op_v (p_neq Y Y) ?_
 refine Zm Y ?_
 first | refine ops_split (t := 75) Y rfl (fun k1 => ?_) (fun k1 => ?_) | refine ops_split_bool (t := 75) Y rfl (fun k1 => ?_) (fun k1 => ?_)
 ·
  exfalso; first | exact k1 rfl | (cases k1; done) | omega
 ·
  refine Zf Y Y ?_
  first | refine op_wg Y (p_neq_nat (n := 0) Y Y) rfl rfl ?_ | refine op_wg Y (p_neq Y Y) rfl rfl ?_
  refine Zv (p_pick_f Y Y) <| Zm Y ?_
  first | refine ops_split (t := 79) Y rfl (fun k2 => ?_) (fun k2 => ?_) | refine ops_split_bool (t := 79) Y rfl (fun k2 => ?_) (fun k2 => ?_)
  ·
   exfalso; first | exact k2 rfl | (cases k2; done) | omega
  ·
   refine Zf Y Y ?_
   first | refine op_wg Y (p_neq_nat (n := 0) Y Y) rfl rfl ?_ | refine op_wg Y (p_neq Y Y) rfl rfl ?_
   refine Zv (p_pick_f Y Y) <| Zm Y ?_
   first | refine ops_split (t := 83) Y rfl (fun k3 => ?_) (fun k3 => ?_) | refine ops_split_bool (t := 83) Y rfl (fun k3 => ?_) (fun k3 => ?_)
   ·
    exfalso; first | exact k3 rfl | (cases k3; done) | omega
   ·
    refine Zf Y Y ?_
    first | refine op_wg Y (p_not_dec Y) rfl rfl ?_ | refine op_wg Y (p_not Y) rfl rfl ?_
    refine Zv (p_pick_f Y Y) <| Zm Y ?_
    first | refine ops_split (t := 87) Y rfl (fun k4 => ?_) (fun k4 => ?_) | refine ops_split_bool (t := 87) Y rfl (fun k4 => ?_) (fun k4 => ?_)
    ·
     exfalso; first | exact k4 rfl | (cases k4; done) | omega
    ·
     refine Zf Y Y ?_
     first | refine op_wg Y (p_not_dec Y) rfl rfl ?_ | refine op_wg Y (p_not Y) rfl rfl ?_
     refine Zv (p_pick_f Y Y) <| Zm Y ?_
     first | refine ops_split (t := 91) Y rfl (fun k5 => ?_) (fun k5 => ?_) | refine ops_split_bool (t := 91) Y rfl (fun k5 => ?_) (fun k5 => ?_)
     ·
      exfalso; first | exact k5 rfl | (cases k5; done) | omega
     ·
      refine Zf Y Y ?_
      first | refine op_wg Y (p_not_dec Y) rfl rfl ?_ | refine op_wg Y (p_not Y) rfl rfl ?_
      refine Zv (p_pick_f Y Y) <| Zm Y ?_
      first | refine ops_split (t := 95) Y rfl (fun k6 => ?_) (fun k6 => ?_) | refine ops_split_bool (t := 95) Y rfl (fun k6 => ?_) (fun k6 => ?_)
      ·
       exfalso; first | exact k6 rfl | (cases k6; done) | omega
      ·
       refine Zf Y Y <| op_wg Y (p_len_slice underlying29 Y) rfl rfl ?_
       refine Zf Y Y <| op_wg Y (p_len_slice underlying29 Y) rfl rfl ?_
       first | refine op_wg Y (p_neq_nat Y Y) rfl rfl ?_ | refine op_wg Y (p_neq Y Y) rfl rfl ?_
       refine Zv (p_pick_f Y Y) <| Zm Y ?_
       first | refine ops_split (t := 102) Y rfl (fun k7 => ?_) (fun k7 => ?_) | refine ops_split_bool (t := 102) Y rfl (fun k7 => ?_) (fun k7 => ?_)
       ·
        exfalso; first | exact k7 rfl | (cases k7; done) | omega
       ·
        refine Zf Y Y <| op_wg Y (p_len_slice underlying29 Y) rfl rfl ?_
        refine op_wg Y (p_fieldAddr0 (off := 4) underlying53 rfl rfl sizeOf3 Y) rfl rfl ?_
        refine op_rg Y (by repeat (first | exact Has.here _ | apply Has.there)) (p_load isAgg3 Y (by rfl)) rfl rfl ?_
        first | refine op_wg Y (p_neq_nat Y Y) rfl rfl ?_ | refine op_wg Y (p_neq Y Y) rfl rfl ?_
        refine Zv (p_pick_f Y Y) <| Zm Y ?_
        first | refine ops_split (t := 109) Y rfl (fun k8 => ?_) (fun k8 => ?_) | refine ops_split_bool (t := 109) Y rfl (fun k8 => ?_) (fun k8 => ?_)
        ·
         exfalso; first | exact k8 rfl | (cases k8; done) | omega
        ·
         refine Zf Y Y <| op_wg Y (p_len_slice underlying29 Y) rfl rfl ?_
         refine op_wg Y (p_fieldAddr0 (off := 4) underlying53 rfl rfl sizeOf3 Y) rfl rfl ?_
         refine op_rg Y (by repeat (first | exact Has.here _ | apply Has.there)) (p_load isAgg3 Y (by rfl)) rfl rfl ?_
         first | refine op_wg Y (p_neq_nat Y Y) rfl rfl ?_ | refine op_wg Y (p_neq Y Y) rfl rfl ?_
         refine Zv (p_pick_f Y Y) <| Zm Y ?_
         first | refine ops_split (t := 116) Y rfl (fun k9 => ?_) (fun k9 => ?_) | refine ops_split_bool (t := 116) Y rfl (fun k9 => ?_) (fun k9 => ?_)
         ·
          exfalso; first | exact k9 rfl | (cases k9; done) | omega
         ·
          refine op_wg Y (p_fieldAddr0 (off := 4) underlying53 rfl rfl sizeOf3 Y) rfl rfl ?_
          refine op_rg Y (by repeat (first | exact Has.here _ | apply Has.there)) (p_load isAgg3 Y (by rfl)) rfl rfl ?_
          refine op_wg Y (p_fieldAddr0 (off := 4) underlying53 rfl rfl sizeOf3 Y) rfl rfl ?_
          refine op_rg Y (by repeat (first | exact Has.here _ | apply Has.there)) (p_load isAgg3 Y (by rfl)) rfl rfl ?_
          first | refine op_wg Y (p_neq_nat Y Y) rfl rfl ?_ | refine op_wg Y (p_neq Y Y) rfl rfl ?_
          refine Zv (p_pick_f Y Y) <| Z0 <| Zn [9, 10, 12, 13, 15, 19, 21, 23, 122] ?_
          refine Zx ?_
          first | refine at_if Y (fun k10 => ?_) (fun k10 => ?_) | refine at_if_bool Y (fun k10 => ?_) (fun k10 => ?_)
          ·
           exfalso; first | exact k10 rfl | (cases k10; done) | omega
          ·
           refine at_skip <| Zx <| Zq <| Zq <| Zg <| Za Y <| Z0 <| Zx <| at_block <| Zb [25, 9, 10, 12, 13, 15, 19, 21, 23] ?_
           refine at_loopB (e0 := [(25, _)]) (H0 := _) (n := _) (fun m e H => ∃ (i : Nat) (fv : Value), m = la.length - i ∧ (i ≤ la.length) ∧ e = [(25, .int .i64 (i : Int))] ∧ H = []) (by exact ⟨0, .bool false, rfl, Nat.zero_le _, rfl, rfl⟩) (by repeat (first | exact Pull.nil _ | (apply Pull.cons; (focus (repeat (first | exact One.here _ _ | apply One.there)))))) ?_
           rintro _ _ _ ⟨i, fv, rfl, hi, rfl, rfl⟩
           refine Zq <| Zq <| Zg <| Zm Y <| Zm Y <| Zv (p_len_slice underlying29 Y) ?_
           first | refine op_v (p_lss_nat Y Y) ?_ | refine op_v (p_lss Y Y) ?_
           refine Z0 <| Zx ?_
           first | refine at_if Y (fun hlt => ?_) (fun hlt => ?_) | refine at_if_bool Y (fun hlt => ?_) (fun hlt => ?_)
           ·
            obtain ⟨x, hx9⟩ : ∃ x, la[i]? = some x := ⟨_, List.getElem?_eq_getElem hlt⟩
            obtain ⟨g1, off1, cur1, T1, zz1, e1, hm1, hsz1, hex1⟩ := hgx9 i x hx9
            obtain ⟨kz, hkz⟩ : ∃ x, lk[i]? = some x := ⟨_, List.getElem?_eq_getElem (by omega)⟩
            obtain ⟨g3, off3, cur3, T3, zz3, e3, hm3, hsz3, hex3⟩ := hgz9 i kz hkz
            subst e1 e3
            have hk3 : cur3[off3 + i * 5 + 1]? = some (.int .i64 kz.k) := by rw [ext_cell hex3 hsz3 1 (by omega)]; rfl
            have hxb : x ∈ lb := hpy.symm.mem_iff.1 (hpx.mem_iff.1 (List.mem_of_getElem? hx9))
            refine at_skip <| Zx <| Zq <| at_block <| Zq <| Zg <| Za Y <| Z0 <| Zx <| Zq <| Zq <| Zg <| Za Y <| Z0 <| Zx <| at_block <| Zb [26, 27, 9, 10, 12, 13, 15, 19, 21, 23, 25] ?_
            refine at_loopB (e0 := [(26, _), (27, _)]) (H0 := _) (n := _) (fun m e H => ∃ (j : Nat) (fb : Bool), m = lb.length - j ∧ (j ≤ lb.length ∧ (fb = true ↔ x ∈ lb.take j)) ∧ e = [(26, .bool fb), (27, .int .i64 (j : Int))] ∧ H = []) (by exact ⟨0, false, rfl, ⟨Nat.zero_le _, by simp⟩, rfl, rfl⟩) (by repeat (first | exact Pull.nil _ | (apply Pull.cons; (focus (repeat (first | exact One.here _ _ | apply One.there)))))) ?_
            rintro _ _ _ ⟨j, fb, rfl, ⟨hj, hfb⟩, rfl, rfl⟩
            refine Zq <| Zq <| Zg <| Zm Y <| Zm Y <| Zv (p_len_slice underlying29 Y) ?_
            first | refine op_v (p_lss_nat Y Y) ?_ | refine op_v (p_lss Y Y) ?_
            refine Z0 <| Zx ?_
            first | refine at_if Y (fun hjt => ?_) (fun hjt => ?_) | refine at_if_bool Y (fun hjt => ?_) (fun hjt => ?_)
            ·
             obtain ⟨y, hy9⟩ : ∃ x, lb[j]? = some x := ⟨_, List.getElem?_eq_getElem hjt⟩
             obtain ⟨g2, off2, cur2, T2, zz2, e2, hm2, hsz2, hex2⟩ := hgy9 j y hy9
             subst e2
             refine at_skip <| Zx <| Zq <| at_block <| at_draw (n := 13) (0 :: 1 :: 3 :: 3 :: 15 :: 31 :: 3 :: 3 :: 195 :: 451 :: 1023 :: 2047 :: 4095 :: []) 0 (by kernel_rfl) (by kernel_rfl) rfl ?_
             refine Zi 1 0 rfl (p_move Y) <| Zi 3 1 rfl (p_move Y) ?_
             refine lin_split_bool (t := 136) Y (fun hft => ?_) (fun hft => ?_)
             ·
              first | rw [decide_eq_true hft] | rw [hft] | skip
              refine lin_skip (D' := 7) 2 rfl Y rfl rfl ?_
              refine lin_skip (D' := 15) 3 rfl Y rfl rfl ?_
              refine lin_skip (D' := 31) 4 rfl Y rfl rfl ?_
              refine lin_skip (D' := 63) 5 rfl Y rfl rfl ?_
              refine lin_skip (D' := 127) 6 rfl Y rfl rfl ?_
              refine lin_skip (D' := 255) 7 rfl Y rfl rfl ?_
              refine lin_skip (D' := 511) 8 rfl Y rfl rfl ?_
              refine lin_skip (D' := 1023) 9 rfl Y rfl rfl ?_
              refine lin_skip (D' := 2047) 10 rfl Y rfl rfl ?_
              refine Zi 4095 11 rfl (p_pick_t Y Y) <| Zi 8191 12 rfl (p_assign Y) <| lin_nil ?_
              refine Zn [9, 10, 12, 13, 15, 19, 21, 23, 25, 26, 27] ?_
              refine nx_block_normal <| Zx <| Zg <| Zm Y ?_
              first | (refine op_v (p_add_nat (n := 1) Y Y ?_) ?_; (focus (omega))) | (refine op_v (p_add Y Y (IntWalk.i64_in _ ?_)) ?_; (focus (omega)))
              refine Za Y <| Z0 <| Zn [26, 27, 9, 10, 12, 13, 15, 19, 21, 23, 25] ?_
              refine nx_againB (e' := [(26, _), (27, _)]) (m := _) (H' := _) (by first | exact ⟨j + 1, true, rfl, ⟨by omega, ⟨fun _ => by rw [take_snoc hy9]; exact List.mem_append_left _ (hfb.1 hft), fun _ => rfl⟩⟩, rfl, rfl⟩ | exact ⟨j + 1, decide (RowEq x.t y.t x.k y.k x.v y.v), rfl, ⟨by omega, by rw [decide_eq_true_eq, row_eq, take_snoc hy9, List.mem_append, List.mem_singleton]; exact ⟨fun h => .inr h, fun h => h.elim (fun h => absurd (hfb.2 h) (by simp [hft])) id⟩⟩, rfl, rfl⟩)
             ·
              first | rw [decide_eq_false hft] | rw [hft] | skip
              refine lin_wg (D' := 7) 2 Y rfl rfl rfl (p_move Y) ?_
              refine lin_wg (D' := 15) 3 Y rfl rfl rfl (p_move Y) ?_
              (refine lin_wg (D' := 31) 4 Y rfl rfl rfl (p_indexAddr_nat underlying29 sizeOf60 Y Y ?_) ?_; (focus (first | omega | decide | (simp; done))))
              refine lin_rgm (b := g1) (x := .cells cur1 T1 zz1) (D' := 63) 5 Y rfl rfl rfl (by simp [hm1]) (p_load_agg (cs := #[.int .i64 x.t, .int .i64 x.k, .int .i64 x.v.a, .int .i64 x.v.b, .int .i64 x.v.c]) isAgg60 sizeOf60 Y (by omega) hex1) ?_
              refine lin_wg (D' := 127) 6 Y rfl rfl rfl (p_move Y) ?_
              refine lin_wg (D' := 255) 7 Y rfl rfl rfl (p_move Y) ?_
              (refine lin_wg (D' := 511) 8 Y rfl rfl rfl (p_indexAddr_nat underlying29 sizeOf60 Y Y ?_) ?_; (focus (first | omega | decide | (simp; done))))
              refine lin_rgm (b := g2) (x := .cells cur2 T2 zz2) (D' := 1023) 9 Y rfl rfl rfl (by simp [hm2]) (p_load_agg (cs := #[.int .i64 y.t, .int .i64 y.k, .int .i64 y.v.a, .int .i64 y.v.b, .int .i64 y.v.c]) isAgg60 sizeOf60 Y (by omega) hex2) ?_
              refine lin_wg (D' := 2047) 10 Y rfl rfl rfl (p_eql_row (by kernel_rfl) underlying60 (by kernel_rfl) (by decide) (by decide) (by decide) underlying3 underlying44 isAgg3 sizeOf3 isAgg44 sizeOf44 Y Y) ?_
              refine Zi 4095 11 rfl (p_pick_f Y Y) <| Zi 8191 12 rfl (p_assign Y) <| lin_nil ?_
              refine Zn [9, 10, 12, 13, 15, 19, 21, 23, 25, 26, 27] ?_
              refine nx_block_normal <| Zx <| Zg <| Zm Y ?_
              first | (refine op_v (p_add_nat (n := 1) Y Y ?_) ?_; (focus (omega))) | (refine op_v (p_add Y Y (IntWalk.i64_in _ ?_)) ?_; (focus (omega)))
              refine Za Y <| Z0 <| Zn [26, 27, 9, 10, 12, 13, 15, 19, 21, 23, 25] ?_
              refine nx_againB (e' := [(26, _), (27, _)]) (m := _) (H' := _) (by first | exact ⟨j + 1, true, rfl, ⟨by omega, ⟨fun _ => by rw [take_snoc hy9]; exact List.mem_append_left _ (hfb.1 hft), fun _ => rfl⟩⟩, rfl, rfl⟩ | exact ⟨j + 1, decide (RowEq x.t y.t x.k y.k x.v y.v), rfl, ⟨by omega, by rw [decide_eq_true_eq, row_eq, take_snoc hy9, List.mem_append, List.mem_singleton]; exact ⟨fun h => .inr h, fun h => h.elim (fun h => absurd (hfb.2 h) (by simp [hft])) id⟩⟩, rfl, rfl⟩)
            ·
             rw [List.take_of_length_le (by omega)] at hfb
             obtain rfl : fb = true := hfb.2 hxb
             refine at_exit <| Zt <| Zt <| nx_block_exit <| Zx <| Zq <| at_draw (n := 20) (0 :: 1 :: 3 :: 7 :: 15 :: 31 :: 63 :: 63 :: 255 :: 511 :: 1023 :: 63 :: 63 :: 4159 :: 14399 :: 30783 :: 63551 :: 131071 :: 262143 :: 524287 :: []) 0 (by kernel_rfl) (by kernel_rfl) rfl ?_
             refine Zi 1 0 rfl (p_move Y) ?_
             first | refine lin_v (D' := 3) 1 (p_not_dec Y) ?_ | refine lin_v (D' := 3) 1 (p_not Y) ?_
             refine Zi 7 2 rfl (p_move Y) ?_
             refine lin_split_bool (t := 149) Y (fun hg1 => ?_) (fun hg1 => ?_)
             ·
              first | rw [decide_eq_true hg1] | rw [hg1] | skip
              cases hg1
             ·
              first | rw [decide_eq_false hg1] | rw [hg1] | skip
              refine lin_wg (D' := 15) 3 Y rfl rfl rfl (p_move Y) ?_
              first | refine lin_wg (D' := 31) 4 Y rfl rfl rfl (p_gtr_nat (n := 0) Y Y) ?_ | refine lin_wg (D' := 31) 4 Y rfl rfl rfl (p_gtr Y Y) ?_
              refine lin_wg (D' := 63) 5 Y rfl rfl rfl (p_move Y) ?_
              first | refine lin_split (t := 152) Y (fun hi0 => ?_) (fun hi0 => ?_) | refine lin_split_bool (t := 152) Y (fun hi0 => ?_) (fun hi0 => ?_)
              ·
               first | rw [decide_eq_true hi0] | rw [hi0] | skip
               obtain ⟨ky, hky⟩ : ∃ x, lk[i - 1]? = some x := ⟨_, List.getElem?_eq_getElem (by omega)⟩
               obtain ⟨g4, off4, cur4, T4, zz4, e4, hm4, hsz4, hex4⟩ := hgz9 (i - 1) ky hky
               injection e4 with e4
               injection e4 with e41 e42
               subst e41 e42
               have hk4 : cur4[off3 + (i - 1) * 5 + 1]? = some (.int .i64 ky.k) := by rw [ext_cell hex4 hsz4 1 (by omega)]; rfl
               have hkl := at_lt hkk (show i - 1 < i by omega) hky hkz
               refine lin_wg (D' := 127) 6 Y rfl rfl rfl (p_move Y) ?_
               refine lin_wg (D' := 255) 7 Y rfl rfl rfl (p_move Y) ?_
               (refine lin_wg (D' := 511) 8 Y rfl rfl rfl (p_indexAddr_nat underlying29 sizeOf60 Y Y ?_) ?_; (focus (first | omega | decide | (simp; done))))
               refine lin_wg (D' := 1023) 9 Y rfl rfl rfl (p_fieldAddr1 (off := 1) underlying60 rfl rfl sizeOf3 Y) ?_
               refine lin_rgm (b := g3) (x := .cells cur3 T3 zz3) (D' := 2047) 10 Y rfl rfl rfl (by simp [hm3]) (p_load isAgg3 Y (by first | exact hk3 | simpa using hk3)) ?_
               refine lin_wg (D' := 4095) 11 Y rfl rfl rfl (p_move Y) ?_
               refine lin_wg (D' := 8191) 12 Y rfl rfl rfl (p_move Y) ?_
               first | (refine lin_wg (D' := 16383) 13 Y rfl rfl rfl (p_sub_nat (n := 1) Y Y ?_ ?_) ?_; (focus (omega)); (focus (omega))) | (refine lin_wg (D' := 16383) 13 Y rfl rfl rfl (p_sub Y Y (IntWalk.i64_in _ ?_)) ?_; (focus (omega)))
               (refine lin_wg (D' := 32767) 14 Y rfl rfl rfl (p_indexAddr_nat underlying29 sizeOf60 Y Y ?_) ?_; (focus (first | omega | decide | (simp; done))))
               refine lin_wg (D' := 65535) 15 Y rfl rfl rfl (p_fieldAddr1 (off := 1) underlying60 rfl rfl sizeOf3 Y) ?_
               refine lin_rgm (b := g3) (x := .cells cur4 T4 zz4) (D' := 131071) 16 Y rfl rfl rfl (by simp [hm4]) (p_load isAgg3 Y (by first | exact hk4 | simpa using hk4)) ?_
               first | refine lin_wg (D' := 262143) 17 Y rfl rfl rfl (p_leq_nat Y Y) ?_ | refine lin_wg (D' := 262143) 17 Y rfl rfl rfl (p_leq Y Y) ?_
               refine lin_wg (D' := 524287) 18 Y rfl rfl rfl (p_pick_t Y Y) ?_
               refine Zi 1048575 19 rfl (p_pick_f Y Y) <| lin_nil ?_
               refine Zn [9, 10, 12, 13, 15, 19, 21, 23, 25, 166] ?_
               refine Zx ?_
               first | refine at_if Y (fun hbad => ?_) (fun hbad => ?_) | refine at_if_bool Y (fun hbad => ?_) (fun hbad => ?_)
               ·
                exfalso; omega
               ·
                refine at_skip <| nx_block_normal <| Zx <| Zg <| Zm Y ?_
                first | (refine op_v (p_add_nat (n := 1) Y Y ?_) ?_; (focus (omega))) | (refine op_v (p_add Y Y (IntWalk.i64_in _ ?_)) ?_; (focus (omega)))
                refine Za Y <| Z0 <| Zn [25, 9, 10, 12, 13, 15, 19, 21, 23] ?_
                refine nx_againB (e' := [(25, _)]) (m := _) (H' := _) (by exact ⟨i + 1, .bool false, rfl, by omega, rfl, rfl⟩)
              ·
               first | rw [decide_eq_false hi0] | rw [hi0] | skip
               refine lin_skip (D' := 127) 6 rfl Y rfl rfl ?_
               refine lin_skip (D' := 255) 7 rfl Y rfl rfl ?_
               refine lin_skip (D' := 511) 8 rfl Y rfl rfl ?_
               refine lin_skip (D' := 1023) 9 rfl Y rfl rfl ?_
               refine lin_skip (D' := 2047) 10 rfl Y rfl rfl ?_
               refine lin_skip (D' := 4095) 11 rfl Y rfl rfl ?_
               refine lin_skip (D' := 8191) 12 rfl Y rfl rfl ?_
               refine lin_skip (D' := 16383) 13 rfl Y rfl rfl ?_
               refine lin_skip (D' := 32767) 14 rfl Y rfl rfl ?_
               refine lin_skip (D' := 65535) 15 rfl Y rfl rfl ?_
               refine lin_skip (D' := 131071) 16 rfl Y rfl rfl ?_
               refine lin_skip (D' := 262143) 17 rfl Y rfl rfl ?_
               refine lin_wg (D' := 524287) 18 Y rfl rfl rfl (p_pick_f Y Y) ?_
               refine Zi 1048575 19 rfl (p_pick_f Y Y) <| lin_nil ?_
               refine Zn [9, 10, 12, 13, 15, 19, 21, 23, 25, 166] ?_
               refine Zx <| at_else Y <| at_skip <| nx_block_normal <| Zx <| Zg <| Zm Y ?_
               first | (refine op_v (p_add_nat (n := 1) Y Y ?_) ?_; (focus (omega))) | (refine op_v (p_add Y Y (IntWalk.i64_in _ ?_)) ?_; (focus (omega)))
               refine Za Y <| Z0 <| Zn [25, 9, 10, 12, 13, 15, 19, 21, 23] ?_
               refine nx_againB (e' := [(25, _)]) (m := _) (H' := _) (by exact ⟨i + 1, .bool false, rfl, by omega, rfl, rfl⟩)
           ·
            refine at_exit <| Zt <| Zt <| nx_block_exit <| Zx <| Zq <| Zg <| Zm Y <| Zm Y ?_
            refine ops_split_bool (t := 168) Y rfl (fun hs1 => ?_) (fun hs1 => ?_)
            ·
             refine Zf Y Y <| Zf Y Y <| Zf Y Y <| Zc [_, _] Y call27 Y rfl (st_rows _ _ rs _ hst (((pickN tb 4) : Nat) : Int)) ?_
             rintro _ _ ⟨_, ⟨so, hso, rfl⟩, rfl⟩
             have hUo := rowsU_row hso (by rw [← hlk]; omega)
             refine Zr [_, _] Y call9 Y rfl (r4_same2 hUz hUo) ?_
             rintro _ _ ⟨rfl, rfl⟩
             refine Zv (p_pick_t Y Y) <| Zm Y ?_
             first | refine ops_split (t := 175) Y rfl (fun hs2 => ?_) (fun hs2 => ?_) | refine ops_split_bool (t := 175) Y rfl (fun hs2 => ?_) (fun hs2 => ?_)
             ·
              refine op_wg Y (p_fieldAddr0 (off := 8) underlying53 rfl rfl sizeOf34 Y) rfl rfl ?_
              refine op_rg Y (by repeat (first | exact Has.here _ | apply Has.there)) (p_load isAgg34 Y (by rfl)) rfl rfl ?_
              refine op_wg Y (p_fieldAddr0 (off := 8) underlying53 rfl rfl sizeOf34 Y) rfl rfl ?_
              refine op_rg Y (by repeat (first | exact Has.here _ | apply Has.there)) (p_load isAgg34 Y (by rfl)) rfl rfl ?_
              refine Zr [_, _] Y call24 Y rfl (r2_same2 hTa hTb) ?_
              rintro _ _ ⟨rfl, rfl⟩
              refine Zv (p_pick_t Y Y) <| Za Y <| Z0 <| Zn [8] ?_
              refine Zx <| at_ret ?_
              refine nx_end1 rfl results6 Y (by exact ⟨congrArg Value.bool (decide_eq_true rfl), rfl⟩)
             ·
              exact absurd hlk hs2
            ·
             cases hs1

end Go.Proofs.YtcbjoojdfelgaaaGreatDoor
