/- sane: its numbers. A journal and its disk: Append, Open at nil, a spoilt disk. sane. -/
import Derived.Test.YthbadolcncojbaaGreatDoorEz
import Derived.Test.YthbadolcncojbaaGreatDoorJm2
import Derived.Test.YthbadolcncojbaaGreatDoorOp3
import Derived.Test.YthbadolcncojbaaGreatDoorAp4

namespace Go.Proofs.YthbadolcncojbaaGreatDoor
open Go.Proofs.Tryz
open Go Go.RowKit Gw
set_option linter.unusedVariables false
set_option linter.unusedSimpArgs false
set_option maxRecDepth 100000
attribute [local irreducible] Gw.At Gw.Nx Gw.Ops
theorem encI_one (n : Nat) (h : n < 64) : (encI (n : Int)).length = 1 := by
  unfold encI; rw [zz_nat, grps_eq, if_pos (by omega)]; rfl
theorem encI_two (n : Nat) (h : 64 ≤ n) (h2 : n < 8192) : (encI (n : Int)).length = 2 := by
  unfold encI; rw [zz_nat, grps_eq, if_neg (by omega), grps_eq, if_pos (by omega)]; rfl
theorem recS_one (h r : List UInt8) (hr : r.length < 64) : (recS h r).length = 34 + r.length := by
  rw [recS_len h r (by omega)]; unfold encS; rw [List.length_append, encI_one _ hr]; omega
theorem recS_two (h r : List UInt8) (h1 : 64 ≤ r.length) (h2 : r.length < 8192) : (recS h r).length = 35 + r.length := by
  rw [recS_len h r (by omega)]; unfold encS; rw [List.length_append, encI_two _ h1 h2]; omega
/-- A disk whose first byte is neither 0 nor 1 is damaged. -/
theorem load_bad (b : UInt8) (t : List UInt8) (h0 : b.toNat ≠ 0) (h1 : b.toNat ≠ 1) : loadL (b :: t) ((b :: t).length + 1) [] zero32 0 = none := by
  rw [loadL, List.getElem?_cons_zero]
  simp only
  rw [if_neg h0, if_neg h1]
def saneA : List (List UInt8) := [[97, 98], []]
def saneB : List (List UInt8) := [List.replicate 96 0]
def saneC : List (List UInt8) := [List.replicate 95 0]
theorem saneA_len (h : List UInt8) : (outL h saneA).length = 70 := by
  have a := recS_one h [97, 98] (by decide)
  have b := recS_one (chainS h [97, 98]) [] (by decide)
  simp only [saneA, outL, List.length_append, a, b, List.length_cons, List.length_nil]
theorem saneB_len (h : List UInt8) : (outL h saneB).length = 131 := by
  have a := recS_two h (List.replicate 96 0) (by decide) (by decide)
  simp only [saneB, outL, List.length_append, a, List.length_replicate, List.length_nil]
theorem saneC_len (h : List UInt8) : (outL h saneC).length = 130 := by
  have a := recS_two h (List.replicate 95 0) (by decide) (by decide)
  simp only [saneC, outL, List.length_append, a, List.length_replicate, List.length_nil]

theorem take_get {cur : Array Value} {xs : List Value} {n i : Nat} {x : Value} (h : cur.toList.take n = xs) (hi : i < n) (hx : xs[i]? = some x) : cur[i]? = some x := by
  rw [← Array.getElem?_toList, ← hx, ← h, List.getElem?_take, if_pos hi]
theorem JD.count {j : JrS} {d : DiskS} (hj : JD j d) : j.rs.length ≤ d.vi.length := by
  have : ∀ (ls : List (List UInt8)) (h : List UInt8), (∀ r ∈ ls, r.length ≤ 65536) → ls.length ≤ (outL h ls).length := by
    intro ls
    induction ls with
    | nil => intro h _; simp [outL]
    | cons x t ih =>
      intro h hl
      have h1 := recS_len h x (hl x (by simp))
      have h2 := ih (chainS h x) (fun r hr => hl r (by simp [hr]))
      simp only [outL, List.length_append, List.length_cons]; omega
  have h1 := this j.rs zero32 hj.short
  have h2 := hj.sz
  have h3 := hj.fit
  omega
theorem isLong_none {ls : List (List UInt8)} (hs : ∀ r ∈ ls, r.length ≤ 65536) : ls.any isLong = false := by
  rw [List.any_eq_false]
  intro r hr
  have := hs r hr
  unfold isLong
  simp; omega
theorem jd_append (j : JrS) (d : DiskS) (jp dp : Nat) (sj sl sd : List Chunk) (v : Value) (ls : List (List UInt8)) (Tg : TypeId) (zg : Nat × Nat) (hD : JD j d) (hJ : JrR j jp dp sj) (hR : DiskR d dp sd) (hl : Row 9 v (ls.map strV) sl) (hs : ∀ r ∈ ls, r.length ≤ 65536) (hls : ls.length ≤ 1000000) :
    Does Tryz.prog 13 #[.pointer (some ⟨jp, 0, none⟩), v] [sj, sl, sd, [(4, .cells (kTab.map u32v).toArray Tg zg)]] (fun r H' => ∃ (e : Int) (j' : JrS) (d' : DiskS) (sj' sd' : List Chunk), r = .int .i64 e ∧ JD j' d' ∧ d'.vi.length = d.vi.length ∧
      ((d.vi.length < j.sz + (outL j.h ls).length ∧ e = 231 ∧ j' = j ∧ d' = d) ∨ (j.sz + (outL j.h ls).length ≤ d.vi.length ∧ e = 0 ∧ j'.rs = j.rs ++ ls ∧ j'.sz = j.sz + (outL j.h ls).length)) ∧
      JrR j' jp dp sj' ∧ DiskR d' dp sd' ∧ H' = [sj', sl, sd', [(4, .cells (kTab.map u32v).toArray Tg zg)]]) := by
  refine does_mono (jr_append j d jp dp sj sl sd v ls Tg zg hJ hR hl hD.br hD.fit (by rw [hD.pend]; simp) hls (isLong_none hs)) ?_
  rintro r _ ⟨v', sr', sd', rfl, h1, h2, rfl⟩
  obtain ⟨a1, a2, a3⟩ := JD.append hD ls hs
  have a4 := a1.count
  have a5 : (j.append d ls).2.2.vi.length ≤ 4194304 := h2.1.2.2.1
  exact ⟨_, ⟨_, _, _, _, _, rfl, a1, a2, a3, ⟨by rw [a1.head]; exact headL_len _ _ rfl, by omega, v', sr', h1, rfl⟩, h2, rfl⟩, by simp⟩
theorem JD.spoil {j : JrS} {d : DiskS} (hj : JD j d) (h0 : 0 < d.vi.length) : (d.write 0 [2]).2.off = false ∧ loadL (d.write 0 [2]).2.vi ((d.write 0 [2]).2.vi.length + 1) [] zero32 0 = none ∧ (d.write 0 [2]).2.vi.length = d.vi.length := by
  obtain ⟨off, left, du, vi, pend⟩ := d
  have h1 := hj.off
  have h2 := hj.left
  simp only at h0 h1 h2
  subst h1 h2
  refine ⟨by simp [DiskS.write, usedOff], ?_⟩
  simp only [DiskS.write, Bool.false_eq_true, if_false, splice, List.take_zero, List.nil_append]
  refine ⟨load_bad 2 _ (by decide) (by decide), ?_⟩
  simp; omega

theorem open_nil : DoesR Tryz.prog 10 #[.pointer none] [] (.tuple #[.pointer none, .int .i64 1]) := by
 refine spec_enter func10 rfl ntmps10 rfl ?_
 intro u R
 refine Zb [0] ?_
 refine Zq <| Zg <| Za Y <| Za Y <| Z0 <| Zx <| Zq <| Zq <| Zg <| Zm Y ?_
 first | refine op_v (p_eql_nil_nil underlying26 Y Y) ?_ | refine op_v (p_eql_ptr_nil underlying26 Y Y) ?_
 refine Z0 <| Zx ?_
 refine at_if_bool Y (fun hc1 => ?_) (fun hc1 => ?_)
 ·
  refine Zq <| Zg <| Za Y <| Za Y <| Z0 <| Zx <| at_ret <| Zt ?_
  refine nx_end2 rfl results10 Y Y (by exact ⟨rfl, rfl⟩)
 ·
  cases hc1

theorem sane_spec (pa : Addr) (Tx Tg : TypeId) (zx zg : Nat × Nat) : DoesR Tryz.prog 7 #[] [[(4, .cells (kTab.map u32v).toArray Tg zg)], [(0, .cells #[.iface 299 (.pointer (some pa))] Tx zx)]] (.bool true) := by
 refine spec_enter func7 rfl ntmps7 rfl ?_
 intro u R
 refine Zb [] ?_
 refine Zq <| Zg <| Za Y <| Z0 <| Zx <| Zq <| Zg <| Zc [_] Y call9 Y rfl (new_state 200 (by decide) (by decide)) ?_
 rintro _ _ ⟨_, ⟨dp, sd0, rfl, rfl, hR0⟩, rfl⟩
 have hD0 := JD.new 200 (by decide)
 have hv0 : (DiskS.new 200).vi.length = 200 := by simp [DiskS.new]
 refine Zm Y <| Zd Y rfl <| Zd Y rfl <| Za Y <| Za Y <| Z0 <| Zx <| Zq <| Zg <| Zm Y <| Zc [_] Y call10 Y rfl (jr_open _ _ dp sd0 pa Tx Tg zx zg hD0 hR0) ?_
 rintro _ _ ⟨_, ⟨jp, sj0, rfl, hJ0, rfl⟩, rfl⟩
 refine Zm Y <| Zd Y rfl <| Zd Y rfl <| Za Y <| Za Y <| Z0 <| Zn [1, 3, 4] ?_
 refine Zx <| Zq <| Zq <| Zg <| Zm Y ?_
 first | refine op_v (p_eql_nil_nil underlying30 Y Y) ?_ | refine op_v (p_eql_ptr_nil underlying30 Y Y) ?_
 refine Zm Y ?_
 first | refine ops_split (t := 26) Y rfl (fun hg1 => ?_) (fun hg1 => ?_) | refine ops_split_bool (t := 26) Y rfl (fun hg1 => ?_) (fun hg1 => ?_)
 ·
  exfalso; first | exact hg1 rfl | (cases hg1; done) | contradiction | omega | (simp_all; done)
 ·
  refine Zf Y Y ?_
  first | refine op_wg Y (p_neq_nat (n := 0) Y Y) rfl rfl ?_ | refine op_wg Y (p_neq Y Y) rfl rfl ?_
  refine Zv (p_pick_f Y Y) <| Zm Y ?_
  first | refine ops_split (t := 30) Y rfl (fun hg2 => ?_) (fun hg2 => ?_) | refine ops_split_bool (t := 30) Y rfl (fun hg2 => ?_) (fun hg2 => ?_)
  ·
   exfalso; first | exact hg2 rfl | (cases hg2; done) | contradiction | omega | (simp_all; done)
  ·
   refine Zf Y Y <| Zc [_] Y call39 Y rfl (jr_records _ jp dp sj0 hJ0) ?_
   rintro _ _ ⟨_, ⟨sr0, hr0, rfl⟩, rfl⟩
   obtain ⟨gr0, cr0, rfl⟩ := hr0.form
   refine op_wg Y (p_len_slice underlying43 Y) rfl rfl ?_
   first | refine op_wg Y (p_neq_nat (n := 0) Y Y) rfl rfl ?_ | refine op_wg Y (p_neq Y Y) rfl rfl ?_
   refine Zv (p_pick_f Y Y) <| Zm Y ?_
   first | refine ops_split (t := 36) Y rfl (fun hg3 => ?_) (fun hg3 => ?_) | refine ops_split_bool (t := 36) Y rfl (fun hg3 => ?_) (fun hg3 => ?_)
   ·
    exfalso; first | exact hg3 rfl | (cases hg3; done) | contradiction | omega | (simp_all; done)
   ·
    refine Zf Y Y <| Zr [_] Y call17 Y rfl (jr_room _ _ jp dp sj0 sd0 hJ0 hR0 (Nat.zero_le _)) ?_
    rintro _ _ ⟨rfl, rfl⟩
    first | refine op_wg Y (p_neq_nat (n := 200) Y Y) rfl rfl ?_ | refine op_wg Y (p_neq Y Y) rfl rfl ?_
    refine Zv (p_pick_f Y Y) <| Z0 <| Zn [1, 3, 40] ?_
    refine Zx ?_
    first | refine at_if Y (fun hg4 => ?_) (fun hg4 => ?_) | refine at_if_bool Y (fun hg4 => ?_) (fun hg4 => ?_)
    ·
     exfalso; first | exact hg4 rfl | (cases hg4; done) | contradiction | omega | (simp_all; done)
    ·
     refine at_skip <| Zx <| Zq <| Zg <| Zm Y <| Ze (w_buildSlice (vs := [_, _]) (cs := [_, _]) underlying43 sizeOf9 zeroValue9 Y rfl rfl rfl rfl rfl) ?_
     rintro _ _ ⟨ga, rfl, rfl⟩
     refine Zc [_, _] Y call13 Y rfl (jd_append _ _ jp dp sj0 _ sd0 _ saneA Tg zg hD0 hJ0 hR0 (row_new _ ga (saneA.map strV) 2 rfl (by decide)) (by intro r hr; simp [saneA] at hr; rcases hr with rfl | rfl <;> simp) (by simp [saneA])) ?_
     rintro _ _ ⟨_, ⟨e1, j1, d1, sj1, sd1, rfl, hD1, hv1, ho1, hJ1, hR1, rfl⟩, rfl⟩
     rw [saneA_len] at ho1
     have hx1 : e1 = 0 ∧ j1.rs = saneA ∧ j1.sz = 70 := by rcases ho1 with ⟨h, _⟩ | ⟨_, h1, h2, h3⟩; (exfalso; simp only at h; omega); exact ⟨h1, h2, h3⟩
     obtain ⟨rfl, hrs1, hz1⟩ := hx1
     rw [hv0] at hv1
     refine Za Y <| Z0 <| Zx <| Zq <| Zg <| Zm Y ?_
     refine Ze (w_makeSlice (by_ := 1) (l := 96) (c := 96) underlying36 (rfl : Tryz.prog.info? 5 = some Tryz.t5) rfl rfl rfl rfl Y Y ?_ ?_ ?_) ?_
     (focus (decide))
     (focus (decide))
     (focus (decide))
     rintro _ _ ⟨ma, rfl, rfl⟩
     refine Zo (by repeat (first | exact Has.here _ | apply Has.there)) (p_conv_bytes_str underlying36 underlying5 underlying9 Y (by exact (show (_ = List.map u8v (List.replicate 96 0)) ∧ _ from ⟨rfl, rfl⟩))) ?_
     refine Ze (w_buildSlice (vs := [_]) (cs := [_]) underlying43 sizeOf9 zeroValue9 Y rfl rfl rfl rfl rfl) ?_
     rintro _ _ ⟨gb, rfl, rfl⟩
     refine Zc [_, _] Y call13 Y rfl (jd_append _ _ jp dp sj1 _ sd1 _ saneB Tg zg hD1 hJ1 hR1 (row_new _ gb (saneB.map strV) 1 rfl (by decide)) (by intro r hr; simp [saneB] at hr; rcases hr with rfl | rfl <;> simp) (by simp [saneB])) ?_
     rintro _ _ ⟨_, ⟨e2, j2, d2, sj2, sd2, rfl, hD2, hv2, ho2, hJ2, hR2, rfl⟩, rfl⟩
     rw [saneB_len] at ho2
     have hx2 : e2 = 231 ∧ j2 = j1 ∧ d2 = d1 := by rcases ho2 with ⟨_, h1, h2, h3⟩ | ⟨h, _⟩; exact ⟨h1, h2, h3⟩; (exfalso; omega)
     obtain ⟨rfl, rfl, rfl⟩ := hx2
     refine Za Y <| Z0 <| Zx <| Zq <| Zg <| Zm Y <| Zr [_] Y call17 Y rfl (jr_room _ _ jp dp sj2 sd2 hJ2 hR2 hD2.fit) ?_
     rintro _ _ ⟨rfl, rfl⟩
     refine Za Y <| Z0 <| Zn [1, 3, 5, 6, 7] ?_
     refine Zx <| Zq <| Zg <| Zm Y ?_
     refine Ze (w_makeSlice (by_ := 1) (l := 95) (c := 95) underlying36 (rfl : Tryz.prog.info? 5 = some Tryz.t5) rfl rfl rfl rfl Y Y ?_ ?_ ?_) ?_
     (focus (decide))
     (focus (decide))
     (focus (decide))
     rintro _ _ ⟨mc, rfl, rfl⟩
     refine Zo (by repeat (first | exact Has.here _ | apply Has.there)) (p_conv_bytes_str underlying36 underlying5 underlying9 Y (by exact (show (_ = List.map u8v (List.replicate 95 0)) ∧ _ from ⟨rfl, rfl⟩))) ?_
     refine Ze (w_buildSlice (vs := [_]) (cs := [_]) underlying43 sizeOf9 zeroValue9 Y rfl rfl rfl rfl rfl) ?_
     rintro _ _ ⟨gc, rfl, rfl⟩
     refine Zc [_, _] Y call13 Y rfl (jd_append _ _ jp dp sj2 _ sd2 _ saneC Tg zg hD2 hJ2 hR2 (row_new _ gc (saneC.map strV) 1 rfl (by decide)) (by intro r hr; simp [saneC] at hr; rcases hr with rfl | rfl <;> simp) (by simp [saneC])) ?_
     rintro _ _ ⟨_, ⟨e3, j3, d3, sj3, sd3, rfl, hD3, hv3, ho3, hJ3, hR3, rfl⟩, rfl⟩
     rw [saneC_len] at ho3
     have hx3 : e3 = 0 ∧ j3.rs = saneA ++ saneC ∧ j3.sz = 200 := by rcases ho3 with ⟨h, _⟩ | ⟨_, h1, h2, h3⟩; (exfalso; omega); exact ⟨h1, by rw [h2, hrs1], by omega⟩
     obtain ⟨rfl, hrs3, hz3⟩ := hx3
     refine Za Y <| Z0 <| Zx <| Zq <| Zg <| Zm Y <| Zc [_] Y call10 Y rfl (jr_open _ _ dp sd3 pa Tx Tg zx zg hD3 hR3) ?_
     rintro _ _ ⟨_, ⟨kp, sk, rfl, hK, rfl⟩, rfl⟩
     refine Zm Y <| Zd Y rfl <| Zd Y rfl <| Za Y <| Za Y <| Z0 <| Zn [1, 3, 5, 6, 7, 8, 9, 10] ?_
     refine Zx <| Zq <| Zq <| Zg <| Zm Y ?_
     first | refine op_v (p_eql_nil_nil underlying30 Y Y) ?_ | refine op_v (p_eql_ptr_nil underlying30 Y Y) ?_
     refine Z0 <| Zx ?_
     first | refine at_if Y (fun hg5 => ?_) (fun hg5 => ?_) | refine at_if_bool Y (fun hg5 => ?_) (fun hg5 => ?_)
     ·
      exfalso; first | exact hg5 rfl | (cases hg5; done) | contradiction | omega | (simp_all; done)
     ·
      refine at_skip <| Zx <| Zq <| Zg <| Zm Y <| Zc [_, _, _] Y call21 Y rfl (disk_write _ dp sd3 hR3 0 [2] (by simp; omega) (by omega) (by rw [hD3.pend]; simp)) ?_
      rintro _ _ ⟨_, ⟨sd4, rfl, rfl, hR4⟩, rfl⟩
      obtain ⟨ho4, hl4, hv4⟩ := hD3.spoil (by omega)
      refine Z0 <| Zx <| Zq <| Zg <| Zm Y <| Zr [_] Y call10 Y rfl (open_damaged dp _ sd4 pa Tx Tg zx zg hR4 ho4 hl4) ?_
      rintro _ _ ⟨rfl, rfl⟩
      refine Zm Y <| Zd Y rfl <| Zd Y rfl <| Za Y <| Za Y <| Z0 <| Zx <| Zq <| Zg <| Zr [_] Y call10 Y rfl (open_nil) ?_
      rintro _ _ ⟨rfl, rfl⟩
      refine Zm Y <| Zd Y rfl <| Zd Y rfl <| Za Y <| Za Y <| Z0 <| Zn [3, 5, 6, 7, 8, 9, 10, 12, 14] ?_
      refine Zx <| Zq <| Zg <| Zm Y ?_
      first | refine op_v (p_eql_nat (n := 0) Y Y) ?_ | refine op_v (p_eql Y Y) ?_
      refine Zm Y ?_
      first | refine ops_split (t := 76) Y rfl (fun hk1 => ?_) (fun hk1 => ?_) | refine ops_split_bool (t := 76) Y rfl (fun hk1 => ?_) (fun hk1 => ?_)
      ·
       refine Zf Y Y ?_
       first | refine op_wg Y (p_eql_nat (n := 231) Y Y) rfl rfl ?_ | refine op_wg Y (p_eql Y Y) rfl rfl ?_
       refine Zv (p_pick_t Y Y) <| Zm Y ?_
       first | refine ops_split (t := 80) Y rfl (fun hk2 => ?_) (fun hk2 => ?_) | refine ops_split_bool (t := 80) Y rfl (fun hk2 => ?_) (fun hk2 => ?_)
       ·
        refine Zf Y Y ?_
        first | refine op_wg Y (p_eql_nat (n := 130) Y Y) rfl rfl ?_ | refine op_wg Y (p_eql Y Y) rfl rfl ?_
        refine Zv (p_pick_t Y Y) <| Zm Y ?_
        first | refine ops_split (t := 84) Y rfl (fun hk3 => ?_) (fun hk3 => ?_) | refine ops_split_bool (t := 84) Y rfl (fun hk3 => ?_) (fun hk3 => ?_)
        ·
         refine Zf Y Y ?_
         first | refine op_wg Y (p_eql_nat (n := 0) Y Y) rfl rfl ?_ | refine op_wg Y (p_eql Y Y) rfl rfl ?_
         refine Zv (p_pick_t Y Y) <| Zm Y ?_
         first | refine ops_split (t := 88) Y rfl (fun hk4 => ?_) (fun hk4 => ?_) | refine ops_split_bool (t := 88) Y rfl (fun hk4 => ?_) (fun hk4 => ?_)
         ·
          refine Zf Y Y <| Zr [_] Y call17 Y rfl (jr_room _ _ jp dp sj3 sd4 hJ3 hR4 (by omega)) ?_
          rintro _ _ ⟨rfl, rfl⟩
          first | refine op_wg Y (p_eql_nat (n := 0) Y Y) rfl rfl ?_ | refine op_wg Y (p_eql Y Y) rfl rfl ?_
          refine Zv (p_pick_t Y Y) <| Zm Y ?_
          first | refine ops_split (t := 93) Y rfl (fun hk5 => ?_) (fun hk5 => ?_) | refine ops_split_bool (t := 93) Y rfl (fun hk5 => ?_) (fun hk5 => ?_)
          ·
           refine Zf Y Y ?_
           first | refine op_wg Y (p_eql_nat (n := 0) Y Y) rfl rfl ?_ | refine op_wg Y (p_eql Y Y) rfl rfl ?_
           refine Zv (p_pick_t Y Y) <| Zm Y ?_
           first | refine ops_split (t := 97) Y rfl (fun hk6 => ?_) (fun hk6 => ?_) | refine ops_split_bool (t := 97) Y rfl (fun hk6 => ?_) (fun hk6 => ?_)
           ·
            refine Zf Y Y <| Zc [_] Y call39 Y rfl (jr_records _ kp dp sk hK) ?_
            rintro _ _ ⟨_, ⟨sr5, hr5, rfl⟩, rfl⟩
            rw [hrs3] at hr5
            obtain ⟨gr5, cr5, rfl⟩ := hr5.form
            refine op_wg Y (p_len_slice underlying43 Y) rfl rfl ?_
            first | refine op_wg Y (p_eql_nat (n := 3) Y Y) rfl rfl ?_ | refine op_wg Y (p_eql Y Y) rfl rfl ?_
            refine Zv (p_pick_t Y Y) <| Zm Y ?_
            first | refine ops_split (t := 103) Y rfl (fun hk7 => ?_) (fun hk7 => ?_) | refine ops_split_bool (t := 103) Y rfl (fun hk7 => ?_) (fun hk7 => ?_)
            ·
             refine Zf Y Y <| Zc [_] Y call39 Y rfl (jr_records _ kp dp sk hK) ?_
             rintro _ _ ⟨_, ⟨sr6, hr6, rfl⟩, rfl⟩
             rw [hrs3] at hr6
             obtain ⟨g6, c6, cur6, z6, rfl, rfl, hle6, hcm6, hcs6, htk6, hfr6⟩ := hr6.some (by decide)
             first | (refine op_wg Y (p_indexAddr_nat0 (j := 0) underlying43 sizeOf9 Y Y ?_) rfl rfl ?_; (focus (decide))) | (refine op_wg Y (p_indexAddr_nat1 (j := 0) underlying43 sizeOf9 Y Y ?_) rfl rfl ?_; (focus (decide)))
             refine op_rg Y (by repeat (first | exact Has.here _ | apply Has.there)) (p_load isAgg9 Y (by exact take_get (x := strV [97, 98]) htk6 (by decide) rfl)) rfl rfl ?_
             refine op_wg Y (p_eql_str Y Y) rfl rfl ?_
             refine Zv (p_pick_t Y Y) <| Zm Y ?_
             first | refine ops_split (t := 110) Y rfl (fun hk8 => ?_) (fun hk8 => ?_) | refine ops_split_bool (t := 110) Y rfl (fun hk8 => ?_) (fun hk8 => ?_)
             ·
              refine Zf Y Y ?_
              first | refine op_wg Y (p_eql_nat (n := 232) Y Y) rfl rfl ?_ | refine op_wg Y (p_eql Y Y) rfl rfl ?_
              refine Zv (p_pick_t Y Y) <| Zm Y ?_
              first | refine ops_split (t := 114) Y rfl (fun hk9 => ?_) (fun hk9 => ?_) | refine ops_split_bool (t := 114) Y rfl (fun hk9 => ?_) (fun hk9 => ?_)
              ·
               refine Zf Y Y ?_
               first | refine op_wg Y (p_eql_nat (n := 1) Y Y) rfl rfl ?_ | refine op_wg Y (p_eql Y Y) rfl rfl ?_
               refine Zv (p_pick_t Y Y) <| Za Y <| Z0 <| Zn [0] ?_
               refine Zx <| at_ret ?_
               refine nx_end1 rfl results7 Y (by exact ⟨rfl, rfl⟩)
              ·
               exfalso; first | exact hk9 rfl | (cases hk9; done) | contradiction | omega | (simp_all; done)
             ·
              exfalso; first | exact hk8 rfl | (cases hk8; done) | contradiction | omega | (simp_all; done)
            ·
             exfalso; first | exact hk7 rfl | (cases hk7; done) | contradiction | omega | (simp_all; done)
           ·
            exfalso; first | exact hk6 rfl | (cases hk6; done) | contradiction | omega | (simp_all; done)
          ·
           exfalso; first | exact hk5 rfl | (cases hk5; done) | contradiction | omega | (simp_all; done)
         ·
          exfalso; first | exact hk4 rfl | (cases hk4; done) | contradiction | omega | (simp_all; done)
        ·
         exfalso; first | exact hk3 rfl | (cases hk3; done) | contradiction | omega | (simp_all; done)
       ·
        exfalso; first | exact hk2 rfl | (cases hk2; done) | contradiction | omega | (simp_all; done)
      ·
       exfalso; first | exact hk1 rfl | (cases hk1; done) | contradiction | omega | (simp_all; done)

end Go.Proofs.YthbadolcncojbaaGreatDoor
