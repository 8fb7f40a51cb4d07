/- sane of chapter 24. -/
import Derived.Test.YthbadolcncojbaaGreatDoorEz
import Derived.Test.YthbadolcncojbaaGreatDoorSp5
namespace Go.Proofs.YthbadolcncojbaaGreatDoor
open Go.Proofs.Tryz
open Go Go.RowKit Gw
set_option linter.unusedVariables false
set_option maxRecDepth 100000
attribute [local irreducible] Gw.At Gw.Nx Gw.Ops
def sanA : List (List UInt8) := [[97, 98], []]
def sanX : List (List UInt8) := [[120]]
def sanL : List (List UInt8) := [List.replicate 300 0]
theorem sanA_len (h : List UInt8) : (outL h (sanA.map itm)).length = 72 := by
  have a := recS_one h (itm [97, 98]) (by decide)
  have b := recS_one (chainS h (itm [97, 98])) (itm []) (by decide)
  have e1 : (itm [97, 98]).length = 3 := rfl
  have e2 : (itm []).length = 1 := rfl
  simp only [sanA, List.map_cons, List.map_nil, outL, List.length_append, a, b, e1, e2, List.length_nil]
theorem sanL_len (h : List UInt8) : (outL h (sanL.map itm)).length = 336 := by
  have e1 : (itm (List.replicate 300 0)).length = 301 := by unfold itm; rw [List.length_cons, List.length_replicate]
  have a := recS_two h (itm (List.replicate 300 0)) (by omega) (by omega)
  simp only [sanL, List.map_cons, List.map_nil, outL, List.length_append, a, e1, List.length_nil]
theorem hdr_two (n : Nat) (h : n < 64) : (hdr n).length = 2 := by
  unfold hdr; rw [List.length_cons]; have := encI_one n h; omega
theorem recsX_len : (outL zero32 (recsOf 2 sanX)).length = 72 := by
  have e0 := hdr_two 2 (by decide)
  have e1 : (itm [120]).length = 2 := rfl
  have a := recS_one zero32 (hdr 2) (by omega)
  have b := recS_one (chainS zero32 (hdr 2)) (itm [120]) (by decide)
  simp only [recsOf, sanX, List.map_cons, List.map_nil, outL, List.length_append, a, b, e0, e1, List.length_nil]

theorem sane24 (pa : Addr) (Tx Tg : TypeId) (zx zg : Nat × Nat) : DoesR Tryz.prog 18 #[] [[(4, .cells (kTab.map u32v).toArray Tg zg)], [(0, .cells #[.iface 299 (.pointer (some pa))] Tx zx)]] (.bool true) := by
 refine spec_enter func18 rfl ntmps18 rfl ?_
 intro u R
 refine Zb [] ?_
 refine Zq <| Zg <| Za Y <| Z0 <| Zx <| Zq <| Zg <| Zc [_] Y call9 Y rfl (new_state 300 (by decide) (by decide)) ?_
 rintro _ _ ⟨_, ⟨a, sda, rfl, rfl, hRa⟩, rfl⟩
 have hDa := JD.new 300 (by decide)
 have hva : (DiskS.new 300).vi.length = 300 := by simp [DiskS.new]
 obtain ⟨csa, hca⟩ := hRa.cell
 refine Zm Y <| Zd Y rfl <| Zd Y rfl <| Za Y <| Za Y <| Z0 <| Zx <| Zq <| Zg <| Zc [_] Y call9 Y rfl (new_state 300 (by decide) (by decide)) ?_
 rintro _ _ ⟨_, ⟨b, sdb, rfl, rfl, hRb⟩, rfl⟩
 obtain ⟨csb, hcb⟩ := hRb.cell
 refine Zm Y <| Zd Y rfl <| Zd Y rfl <| Za Y <| Za Y <| Z0 <| Zn [1, 3] ?_
 refine Zx <| Zq ?_
 refine at_ne (s1 := sda) (s2 := sdb) (by repeat (first | exact One.here _ _ | apply One.there)) (by repeat (first | exact One.here _ _ | apply One.there)) hca hcb (fun hab => ?_)
 refine Zg <| Zm Y <| Zm Y <| Zc [_, _] Y call23 Y rfl (sn_new a b _ _ sda sdb pa Tx Tg zx zg hab hDa hDa hRa hRb (by omega)) ?_
 rintro _ _ ⟨_, ⟨s0, sp, c, o, ss0, sc0, so0, sda1, rfl, hS0, hg0, hi0, hz0, hl0, hod0, hR0, rfl⟩, rfl⟩
 rw [hva] at hl0
 refine Zm Y <| Zd Y rfl <| Zd Y rfl <| Za Y <| Za Y <| Z0 <| Zx <| Zq <| Zg <| Zm Y <| Zm Y <| Zr [_, _] Y call23 Y rfl (open_same a) ?_
 rintro _ _ ⟨rfl, rfl⟩
 refine Zm Y <| Zd Y rfl <| Zd Y rfl <| Za Y <| Za Y <| Z0 <| Zn [1, 3, 5, 6, 8] ?_
 refine Zx <| Zq <| Zg <| Zm Y <| Zr [_, _] Y call23 Y rfl (open_nil1 _) ?_
 rintro _ _ ⟨rfl, rfl⟩
 refine Zm Y <| Zd Y rfl <| Zd Y rfl <| Za Y <| Za Y <| Z0 <| Zx <| Zq <| Zq <| Zg <| Zm Y ?_
 first | refine op_v (p_eql_nil_nil underlying57 Y Y) ?_ | refine op_v (p_eql_ptr_nil underlying57 Y Y) ?_
 refine Zm Y ?_
 refine ops_split_bool (t := 45) Y rfl (fun hq1 => ?_) (fun hq1 => ?_)
 ·
  exfalso; first | exact hq1 rfl | (cases hq1; done) | contradiction | omega | (simp at hq1; done) | (simp at hq1; omega) | (simp_all; done) | (simp_all; omega)
 ·
  refine Zf Y Y ?_
  first | refine op_wg Y (p_neq_nat (n := 0) Y Y) rfl rfl ?_ | refine op_wg Y (p_neq Y Y) rfl rfl ?_
  refine Zv (p_pick_f Y Y) <| Zm Y ?_
  first | refine ops_split (t := 49) Y rfl (fun hq2 => ?_) (fun hq2 => ?_) | refine ops_split_bool (t := 49) Y rfl (fun hq2 => ?_) (fun hq2 => ?_)
  ·
   exfalso; first | exact hq2 rfl | (cases hq2; done) | contradiction | omega | (simp at hq2; done) | (simp at hq2; omega) | (simp_all; done) | (simp_all; omega)
  ·
   refine Zf Y Y <| Zc [_] Y call26 Y rfl (sn_items s0 sp c a o b ss0 sc0 so0 sda1 sdb hS0 hR0) ?_
   rintro _ _ ⟨_, ⟨sv0, hv0, rfl⟩, rfl⟩
   rw [hi0] at hv0
   obtain ⟨gv0, cv0, rfl⟩ := hv0.form
   refine op_wg Y (p_len_slice underlying43 Y) rfl rfl ?_
   first | refine op_wg Y (p_neq_nat (n := 0) Y Y) rfl rfl ?_ | refine op_wg Y (p_neq Y Y) rfl rfl ?_
   refine Zv (p_pick_f Y Y) <| Zm Y ?_
   first | refine ops_split (t := 55) Y rfl (fun hq3 => ?_) (fun hq3 => ?_) | refine ops_split_bool (t := 55) Y rfl (fun hq3 => ?_) (fun hq3 => ?_)
   ·
    exfalso; first | exact hq3 rfl | (cases hq3; done) | contradiction | omega | (simp at hq3; done) | (simp at hq3; omega) | (simp_all; done) | (simp_all; omega)
   ·
    refine Zf Y Y <| Zr [_] Y call27 Y rfl (sn_gen s0 sp c a o b ss0 sc0 so0 sda1 sdb hR0) ?_
    rintro _ _ ⟨rfl, rfl⟩
    first | refine op_wg Y (p_neq_nat (n := 1) Y Y) rfl rfl ?_ | refine op_wg Y (p_neq Y Y) rfl rfl ?_
    refine Zv (p_pick_f Y Y) <| Zm Y ?_
    first | refine ops_split (t := 60) Y rfl (fun hq4 => ?_) (fun hq4 => ?_) | refine ops_split_bool (t := 60) Y rfl (fun hq4 => ?_) (fun hq4 => ?_)
    ·
     exfalso; first | exact hq4 rfl | (cases hq4; done) | contradiction | omega | (simp at hq4; done) | (simp at hq4; omega) | (simp_all; done) | (simp_all; omega)
    ·
     refine Zf Y Y <| Zr [_] Y call28 Y rfl (sn_room s0 sp c a o b ss0 sc0 so0 sda1 sdb hS0 hR0) ?_
     rintro _ _ ⟨rfl, rfl⟩
     first | refine op_wg Y (p_neq_nat (n := 264) Y Y) rfl rfl ?_ | refine op_wg Y (p_neq Y Y) rfl rfl ?_
     refine Zv (p_pick_f Y Y) <| Z0 <| Zn [1, 3, 5, 8, 10, 64] ?_
     refine Zx ?_
     first | refine at_if Y (fun hq5 => ?_) (fun hq5 => ?_) | refine at_if_bool Y (fun hq5 => ?_) (fun hq5 => ?_)
     ·
      exfalso; first | exact hq5 rfl | (cases hq5; done) | contradiction | omega | (simp at hq5; done) | (simp at hq5; omega) | (simp_all; done) | (simp_all; omega)
     ·
      refine at_skip <| Zx <| Zq <| Zg <| Zm Y <| Ze (w_buildSlice (vs := [_, _]) (cs := [_, _]) underlying43 sizeOf9 zeroValue9 Y rfl rfl rfl rfl rfl) ?_
      rintro _ _ ⟨g1, rfl, rfl⟩
      refine Zc [_, _] Y call38 Y rfl (sn_append s0 sp c a o b ss0 sc0 so0 sda1 sdb _ _ sanA Tg zg hS0 hR0 (row_new _ g1 (sanA.map strV) 2 rfl (by decide)) (by decide) (by decide)) ?_
      rintro _ _ ⟨_, ⟨e1, s1, ss1, sc1, sda2, rfl, hS1, hg1, ho1, hod1, hl1, hx1, hR1, rfl⟩, rfl⟩
      rw [sanA_len, hz0, hl0] at hx1
      rw [hl0] at hl1
      have hy1 : e1 = 0 ∧ s1.its = sanA ∧ s1.cur.sz = 108 := by
        rcases hx1 with ⟨h, _⟩ | ⟨_, h1, h2, h3⟩
        · omega
        · exact ⟨h1, by rw [h2, hi0]; rfl, h3⟩
      obtain ⟨rfl, hi1, hz1⟩ := hy1
      refine Za Y <| Z0 <| Zx <| Zq <| Zg <| Zm Y <| Zr [_] Y call28 Y rfl (sn_room s1 sp c a o b ss1 sc1 so0 sda2 sdb hS1 hR1) ?_
      rintro _ _ ⟨rfl, rfl⟩
      refine Za Y <| Z0 <| Zx <| Zq <| Zg <| Zm Y <| Zc [_] Y call26 Y rfl (sn_items s1 sp c a o b ss1 sc1 so0 sda2 sdb hS1 hR1) ?_
      rintro _ _ ⟨_, ⟨sv1, hv1, rfl⟩, rfl⟩
      rw [hi1] at hv1
      refine Za Y <| Z0 <| Zx <| Zq <| Zg <| Zm Y <| Ze (w_buildSlice (vs := [_]) (cs := [_]) underlying43 sizeOf9 zeroValue9 Y rfl rfl rfl rfl rfl) ?_
      rintro _ _ ⟨g2, rfl, rfl⟩
      refine Zc [_, _] Y call36 Y rfl (sn_compact s1 sp c a o b ss1 sc1 so0 sda2 sdb _ _ sanX pa Tx Tg zx zg hS1 hR1 (row_new _ g2 (sanX.map strV) 1 rfl (by decide)) (by decide) (by decide) (by omega)) ?_
      rintro _ _ ⟨_, ⟨e2, s2, np, ss2, so2, sdb2, rfl, hS2, rfl, hx2⟩, rfl⟩
      rw [hg1, hg0, recsX_len, hod1, hod0, hva] at hx2
      have hy2 : e2 = 0 ∧ s2.gen = 2 ∧ s2.its = sanX ∧ s2.cur.sz = 72 ∧ s2.cd.vi.length = 300 ∧ SnR s2 sp np b c a ss2 so2 sc1 sdb2 sda2 := by
        rcases hx2 with ⟨h, _⟩ | ⟨_, h1, h2, h3, h4, _, _, h5, h6⟩
        · omega
        · exact ⟨h1, h2, h3, h4, h5, h6⟩
      obtain ⟨rfl, hg2, hi2, hz2, hl2, hR2⟩ := hy2
      refine Za Y <| Z0 <| Zn [1, 3, 5, 8, 10, 11, 12, 13, 14] ?_
      refine Zx <| Zq <| Zg <| Zm Y ?_
      refine Ze (w_makeSlice (by_ := 1) (l := 300) (c := 300) underlying36 (rfl : Tryz.prog.info? 5 = some Tryz.t5) rfl rfl rfl rfl Y Y ?_ ?_ ?_) ?_
      (focus (decide))
      (focus (decide))
      (focus (decide))
      rintro _ _ ⟨m1, rfl, rfl⟩
      refine Zo (by repeat (first | exact Has.here _ | apply Has.there)) (p_conv_bytes_str underlying36 underlying5 underlying9 Y (by exact (show (_ = List.map u8v (List.replicate 300 0)) ∧ _ from ⟨rfl, rfl⟩))) ?_
      refine Ze (w_buildSlice (vs := [_]) (cs := [_]) underlying43 sizeOf9 zeroValue9 Y rfl rfl rfl rfl rfl) ?_
      rintro _ _ ⟨g3, rfl, rfl⟩
      refine Zc [_, _] Y call38 Y rfl (sn_append s2 sp np b c a ss2 so2 sc1 sdb2 sda2 _ _ sanL Tg zg hS2 hR2 (row_new _ g3 (sanL.map strV) 1 rfl (by decide)) (by decide) (by decide)) ?_
      rintro _ _ ⟨_, ⟨e3, s3, ss3, sc3, sdb3, rfl, hS3, hg3, ho3, hod3, hl3, hx3, hR3, rfl⟩, rfl⟩
      rw [sanL_len, hz2, hl2] at hx3
      have hy3 : e3 = 231 ∧ s3 = s2 := by
        rcases hx3 with ⟨_, h1, h2⟩ | ⟨h, _⟩
        · exact ⟨h1, h2⟩
        · omega
      obtain ⟨rfl, rfl⟩ := hy3
      refine Za Y <| Z0 <| Zx <| Zq <| Zg <| Zm Y <| Zm Y <| Zc [_, _] Y call23 Y rfl (sn_reopen s3 a b b a sdb3 sda2 pa Tx Tg zx zg hS3 hab (.inr ⟨rfl, rfl⟩) hR3.2.2.1 hR3.2.2.2.1) ?_
      rintro _ _ ⟨_, ⟨sp4, c4, o4, ss4, sc4, so4, rfl, hR4, rfl⟩, rfl⟩
      refine Zm Y <| Zd Y rfl <| Zd Y rfl <| Za Y <| Za Y <| Z0 <| Zn [5, 8, 10, 11, 12, 13, 14, 15, 16, 17] ?_
      refine Zx <| Zq <| Zq <| Zg <| Zm Y ?_
      first | refine op_v (p_eql_nil_nil underlying57 Y Y) ?_ | refine op_v (p_eql_ptr_nil underlying57 Y Y) ?_
      refine Z0 <| Zx ?_
      refine at_if_bool Y (fun hq6 => ?_) (fun hq6 => ?_)
      ·
       exfalso; first | exact hq6 rfl | (cases hq6; done) | contradiction | omega | (simp at hq6; done) | (simp at hq6; omega) | (simp_all; done) | (simp_all; omega)
      ·
       refine at_skip <| Zx <| Zq <| Zg <| Zm Y ?_
       first | refine op_v (p_eql_nat (n := 240) Y Y) ?_ | refine op_v (p_eql Y Y) ?_
       refine Zm Y ?_
       first | refine ops_split (t := 90) Y rfl (fun hk1 => ?_) (fun hk1 => ?_) | refine ops_split_bool (t := 90) Y rfl (fun hk1 => ?_) (fun hk1 => ?_)
       ·
        refine Zf Y Y ?_
        first | refine op_wg Y (p_eql_nat (n := 1) Y Y) rfl rfl ?_ | refine op_wg Y (p_eql Y Y) rfl rfl ?_
        refine Zv (p_pick_t Y Y) <| Zm Y ?_
        first | refine ops_split (t := 94) Y rfl (fun hk2 => ?_) (fun hk2 => ?_) | refine ops_split_bool (t := 94) Y rfl (fun hk2 => ?_) (fun hk2 => ?_)
        ·
         refine Zf Y Y ?_
         first | refine op_wg Y (p_eql_nat (n := 0) Y Y) rfl rfl ?_ | refine op_wg Y (p_eql Y Y) rfl rfl ?_
         refine Zv (p_pick_t Y Y) <| Zm Y ?_
         first | refine ops_split (t := 98) Y rfl (fun hk3 => ?_) (fun hk3 => ?_) | refine ops_split_bool (t := 98) Y rfl (fun hk3 => ?_) (fun hk3 => ?_)
         ·
          refine Zf Y Y ?_
          first | refine op_wg Y (p_eql_nat (n := 192) Y Y) rfl rfl ?_ | refine op_wg Y (p_eql Y Y) rfl rfl ?_
          refine Zv (p_pick_t Y Y) <| Zm Y ?_
          first | refine ops_split (t := 102) Y rfl (fun hk4 => ?_) (fun hk4 => ?_) | refine ops_split_bool (t := 102) Y rfl (fun hk4 => ?_) (fun hk4 => ?_)
          ·
           refine Zf Y Y <| Ze (w_buildSlice (vs := [_, _]) (cs := [_, _]) underlying43 sizeOf9 zeroValue9 Y rfl rfl rfl rfl rfl) ?_
           rintro _ _ ⟨g4, rfl, rfl⟩
           refine Zr [_, _] Y call25 Y rfl (same_rows hv1 (row_new _ g4 (sanA.map strV) 2 rfl (by decide)) (by decide)) ?_
           rintro _ _ ⟨rfl, rfl⟩
           refine Zv (p_pick_t Y Y) <| Zm Y ?_
           first | refine ops_split (t := 107) Y rfl (fun hk5 => ?_) (fun hk5 => ?_) | refine ops_split_bool (t := 107) Y rfl (fun hk5 => ?_) (fun hk5 => ?_)
           ·
            refine Zf Y Y ?_
            first | refine op_wg Y (p_eql_nat (n := 0) Y Y) rfl rfl ?_ | refine op_wg Y (p_eql Y Y) rfl rfl ?_
            refine Zv (p_pick_t Y Y) <| Zm Y ?_
            first | refine ops_split (t := 111) Y rfl (fun hk6 => ?_) (fun hk6 => ?_) | refine ops_split_bool (t := 111) Y rfl (fun hk6 => ?_) (fun hk6 => ?_)
            ·
             refine Zf Y Y <| Zr [_] Y call27 Y rfl (sn_gen s3 sp np b c a ss3 sc3 sc1 sdb3 sda2 hR3) ?_
             rintro _ _ ⟨rfl, rfl⟩
             first | refine op_wg Y (p_eql_nat (n := 2) Y Y) rfl rfl ?_ | refine op_wg Y (p_eql Y Y) rfl rfl ?_
             refine Zv (p_pick_t Y Y) <| Zm Y ?_
             first | refine ops_split (t := 116) Y rfl (fun hk7 => ?_) (fun hk7 => ?_) | refine ops_split_bool (t := 116) Y rfl (fun hk7 => ?_) (fun hk7 => ?_)
             ·
              refine Zf Y Y <| Zr [_] Y call28 Y rfl (sn_room s3 sp np b c a ss3 sc3 sc1 sdb3 sda2 hS3 hR3) ?_
              rintro _ _ ⟨rfl, rfl⟩
              first | refine op_wg Y (p_eql_nat (n := 228) Y Y) rfl rfl ?_ | refine op_wg Y (p_eql Y Y) rfl rfl ?_
              refine Zv (p_pick_t Y Y) <| Zm Y ?_
              first | refine ops_split (t := 121) Y rfl (fun hk8 => ?_) (fun hk8 => ?_) | refine ops_split_bool (t := 121) Y rfl (fun hk8 => ?_) (fun hk8 => ?_)
              ·
               refine Zf Y Y ?_
               first | refine op_wg Y (p_eql_nat (n := 231) Y Y) rfl rfl ?_ | refine op_wg Y (p_eql Y Y) rfl rfl ?_
               refine Zv (p_pick_t Y Y) <| Zm Y ?_
               first | refine ops_split (t := 125) Y rfl (fun hk9 => ?_) (fun hk9 => ?_) | refine ops_split_bool (t := 125) Y rfl (fun hk9 => ?_) (fun hk9 => ?_)
               ·
                refine Zf Y Y ?_
                first | refine op_wg Y (p_eql_nat (n := 0) Y Y) rfl rfl ?_ | refine op_wg Y (p_eql Y Y) rfl rfl ?_
                refine Zv (p_pick_t Y Y) <| Zm Y ?_
                first | refine ops_split (t := 129) Y rfl (fun hka => ?_) (fun hka => ?_) | refine ops_split_bool (t := 129) Y rfl (fun hka => ?_) (fun hka => ?_)
                ·
                 refine Zf Y Y <| Zc [_] Y call26 Y rfl (sn_items s3 sp4 c4 b o4 a ss4 sc4 so4 sdb3 sda2 hS3 hR4) ?_
                 rintro _ _ ⟨_, ⟨sv4, hv4, rfl⟩, rfl⟩
                 rw [hi2] at hv4
                 refine Ze (w_buildSlice (vs := [_]) (cs := [_]) underlying43 sizeOf9 zeroValue9 Y rfl rfl rfl rfl rfl) ?_
                 rintro _ _ ⟨g5, rfl, rfl⟩
                 refine Zr [_, _] Y call25 Y rfl (same_rows hv4 (row_new _ g5 (sanX.map strV) 1 rfl (by decide)) (by decide)) ?_
                 rintro _ _ ⟨rfl, rfl⟩
                 refine Zv (p_pick_t Y Y) <| Zm Y ?_
                 first | refine ops_split (t := 135) Y rfl (fun hkb => ?_) (fun hkb => ?_) | refine ops_split_bool (t := 135) Y rfl (fun hkb => ?_) (fun hkb => ?_)
                 ·
                  refine Zf Y Y <| Zr [_] Y call27 Y rfl (sn_gen s3 sp4 c4 b o4 a ss4 sc4 so4 sdb3 sda2 hR4) ?_
                  rintro _ _ ⟨rfl, rfl⟩
                  first | refine op_wg Y (p_eql_nat (n := 2) Y Y) rfl rfl ?_ | refine op_wg Y (p_eql Y Y) rfl rfl ?_
                  refine Zv (p_pick_t Y Y) <| Za Y <| Z0 <| Zn [0] ?_
                  refine Zx <| at_ret ?_
                  refine nx_end1 rfl results18 Y (by exact ⟨by simp; omega, rfl⟩)
                 ·
                  exfalso; first | exact hkb rfl | (cases hkb; done) | contradiction | omega | (simp at hkb; done) | (simp at hkb; omega) | (simp_all; done) | (simp_all; omega)
                ·
                 exfalso; first | exact hka rfl | (cases hka; done) | contradiction | omega | (simp at hka; done) | (simp at hka; omega) | (simp_all; done) | (simp_all; omega)
               ·
                exfalso; first | exact hk9 rfl | (cases hk9; done) | contradiction | omega | (simp at hk9; done) | (simp at hk9; omega) | (simp_all; done) | (simp_all; omega)
              ·
               exfalso; first | exact hk8 rfl | (cases hk8; done) | contradiction | omega | (simp at hk8; done) | (simp at hk8; omega) | (simp_all; done) | (simp_all; omega)
             ·
              exfalso; first | exact hk7 rfl | (cases hk7; done) | contradiction | omega | (simp at hk7; done) | (simp at hk7; omega) | (simp_all; done) | (simp_all; omega)
            ·
             exfalso; first | exact hk6 rfl | (cases hk6; done) | contradiction | omega | (simp at hk6; done) | (simp at hk6; omega) | (simp_all; done) | (simp_all; omega)
           ·
            exfalso; first | exact hk5 rfl | (cases hk5; done) | contradiction | omega | (simp at hk5; done) | (simp at hk5; omega) | (simp_all; done) | (simp_all; omega)
          ·
           exfalso; first | exact hk4 rfl | (cases hk4; done) | contradiction | omega | (simp at hk4; done) | (simp at hk4; omega) | (simp_all; done) | (simp_all; omega)
         ·
          exfalso; first | exact hk3 rfl | (cases hk3; done) | contradiction | omega | (simp at hk3; done) | (simp at hk3; omega) | (simp_all; done) | (simp_all; omega)
        ·
         exfalso; first | exact hk2 rfl | (cases hk2; done) | contradiction | omega | (simp at hk2; done) | (simp at hk2; omega) | (simp_all; done) | (simp_all; omega)
       ·
        exfalso; first | exact hk1 rfl | (cases hk1; done) | contradiction | omega | (simp at hk1; done) | (simp at hk1; omega) | (simp_all; done) | (simp_all; omega)

end Go.Proofs.YthbadolcncojbaaGreatDoor
