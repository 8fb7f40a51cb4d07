/- sane: its numbers. A journal and its disk: Append, Open at nil, a spoilt disk. sane. -/
import Derived.Test.YtdahnapibeepkaaGreatDoorJm2
import Derived.Test.YtdahnapibeepkaaGreatDoorOp3
import Derived.Test.YtdahnapibeepkaaGreatDoorAp4
namespace Go.Proofs.YtdahnapibeepkaaGreatDoor
open Go Go.RowKit Gw
set_option linter.unusedVariables false
set_option maxRecDepth 100000
attribute [local irreducible] Gw.At Gw.Nx Gw.Ops
theorem encI_one (n : Nat) (h : n < 64) : (encI (n : Int)).length = 1 := by
  unfold encI; rw [zz_nat, grps_eq, if_pos (by omega)]; rfl
theorem encI_two (n : Nat) (h : 64 ≤ n) (h2 : n < 8192) : (encI (n : Int)).length = 2 := by
  unfold encI; rw [zz_nat, grps_eq, if_neg (by omega), grps_eq, if_pos (by omega)]; rfl
theorem recS_one (h r : List UInt8) (hr : r.length < 64) : (recS h r).length = 34 + r.length := by
  rw [recS_len h r (by omega)]; unfold encS; rw [List.length_append, encI_one _ hr]; omega
theorem recS_two (h r : List UInt8) (h1 : 64 ≤ r.length) (h2 : r.length < 8192) : (recS h r).length = 35 + r.length := by
  rw [recS_len h r (by omega)]; unfold encS; rw [List.length_append, encI_two _ h1 h2]; omega
/-- A disk whose first byte is neither 0 nor 1 is damaged. -/
theorem load_bad (b : UInt8) (t : List UInt8) (h0 : b.toNat ≠ 0) (h1 : b.toNat ≠ 1) : loadL (b :: t) ((b :: t).length + 1) [] zero32 0 = none := by
  rw [loadL, List.getElem?_cons_zero]
  simp only
  rw [if_neg h0, if_neg h1]
def saneA : List (List UInt8) := [[97, 98], []]
def saneB : List (List UInt8) := [List.replicate 96 0]
def saneC : List (List UInt8) := [List.replicate 95 0]
theorem saneA_len (h : List UInt8) : (outL h saneA).length = 70 := by
  have a := recS_one h [97, 98] (by decide)
  have b := recS_one (chainS h [97, 98]) [] (by decide)
  simp only [saneA, outL, List.length_append, a, b, List.length_cons, List.length_nil]
theorem saneB_len (h : List UInt8) : (outL h saneB).length = 131 := by
  have a := recS_two h (List.replicate 96 0) (by decide) (by decide)
  simp only [saneB, outL, List.length_append, a, List.length_replicate, List.length_nil]
theorem saneC_len (h : List UInt8) : (outL h saneC).length = 130 := by
  have a := recS_two h (List.replicate 95 0) (by decide) (by decide)
  simp only [saneC, outL, List.length_append, a, List.length_replicate, List.length_nil]

theorem take_get {cur : Array Value} {xs : List Value} {n i : Nat} {x : Value} (h : cur.toList.take n = xs) (hi : i < n) (hx : xs[i]? = some x) : cur[i]? = some x := by
  rw [← Array.getElem?_toList, ← hx, ← h, List.getElem?_take, if_pos hi]
theorem JD.count {j : JrS} {d : DiskS} (hj : JD j d) : j.rs.length ≤ d.vi.length := by
  have : ∀ (ls : List (List UInt8)) (h : List UInt8), (∀ r ∈ ls, r.length ≤ 65536) → ls.length ≤ (outL h ls).length := by
    intro ls
    induction ls with
    | nil => intro h _; simp [outL]
    | cons x t ih =>
      intro h hl
      have h1 := recS_len h x (hl x (by simp))
      have h2 := ih (chainS h x) (fun r hr => hl r (by simp [hr]))
      simp only [outL, List.length_append, List.length_cons]; omega
  have h1 := this j.rs zero32 hj.short
  have h2 := hj.sz
  have h3 := hj.fit
  omega
theorem isLong_none {ls : List (List UInt8)} (hs : ∀ r ∈ ls, r.length ≤ 65536) : ls.any isLong = false := by
  rw [List.any_eq_false]
  intro r hr
  have := hs r hr
  unfold isLong
  simp; omega
theorem jd_append (j : JrS) (d : DiskS) (jp dp : Nat) (sj sl sd : List Chunk) (v : Value) (ls : List (List UInt8)) (Tg : TypeId) (zg : Nat × Nat) (hD : JD j d) (hJ : JrR j jp dp sj) (hR : DiskR d dp sd) (hl : Row 9 v (ls.map strV) sl) (hs : ∀ r ∈ ls, r.length ≤ 65536) (hls : ls.length ≤ 1000000) :
    Does Tryz.prog 8 #[.pointer (some ⟨jp, 0, none⟩), v] [sj, sl, sd, [(4, .cells (kTab.map u32v).toArray Tg zg)]] (fun r H' => ∃ (e : Int) (j' : JrS) (d' : DiskS) (sj' sd' : List Chunk), r = .int .i64 e ∧ JD j' d' ∧ d'.vi.length = d.vi.length ∧
      ((d.vi.length < j.sz + (outL j.h ls).length ∧ e = 231 ∧ j' = j ∧ d' = d) ∨ (j.sz + (outL j.h ls).length ≤ d.vi.length ∧ e = 0 ∧ j'.rs = j.rs ++ ls ∧ j'.sz = j.sz + (outL j.h ls).length)) ∧
      JrR j' jp dp sj' ∧ DiskR d' dp sd' ∧ H' = [sj', sl, sd', [(4, .cells (kTab.map u32v).toArray Tg zg)]]) := by
  refine does_mono (jr_append j d jp dp sj sl sd v ls Tg zg hJ hR hl hD.br hD.fit (by rw [hD.pend]; simp) hls (isLong_none hs)) ?_
  rintro r _ ⟨v', sr', sd', rfl, h1, h2, rfl⟩
  obtain ⟨a1, a2, a3⟩ := JD.append hD ls hs
  have a4 := a1.count
  have a5 : (j.append d ls).2.2.vi.length ≤ 4194304 := h2.1.2.2.1
  exact ⟨_, ⟨_, _, _, _, _, rfl, a1, a2, a3, ⟨by rw [a1.head]; exact headL_len _ _ rfl, by omega, v', sr', h1, rfl⟩, h2, rfl⟩, by simp⟩
theorem JD.spoil {j : JrS} {d : DiskS} (hj : JD j d) (h0 : 0 < d.vi.length) : (d.write 0 [2]).2.off = false ∧ loadL (d.write 0 [2]).2.vi ((d.write 0 [2]).2.vi.length + 1) [] zero32 0 = none ∧ (d.write 0 [2]).2.vi.length = d.vi.length := by
  obtain ⟨off, left, du, vi, pend⟩ := d
  have h1 := hj.off
  have h2 := hj.left
  simp only at h0 h1 h2
  subst h1 h2
  refine ⟨by simp [DiskS.write, usedOff], ?_⟩
  simp only [DiskS.write, Bool.false_eq_true, if_false, splice, List.take_zero, List.nil_append]
  refine ⟨load_bad 2 _ (by decide) (by decide), ?_⟩
  simp; omega

theorem open_nil : DoesR Tryz.prog 24 #[.pointer none] [] (.tuple #[.pointer none, .int .i64 1]) := by
 refine spec_enter Tryz.func24 rfl Tryz.ntmps24 rfl ?_
 intro u R
 refine at_slots (env' := [(0, _)]) [0] rfl (fun _=>rfl) ?_
 refine at_seq ?_
 refine at_region ?_
 refine op_v (p_assign (fun _=>rfl)) ?_
 refine op_v (p_assign (fun _=>rfl)) ?_
 refine ops_nil ?_
 refine nx_next ?_
 refine at_seq ?_
 refine at_seq ?_
 refine at_region ?_
 refine op_v (p_move (fun _=>rfl)) ?_
 first | refine op_v (p_eql_nil_nil Tryz.underlying27 (fun _=>rfl) (fun _=>rfl)) ?_ | refine op_v (p_eql_ptr_nil Tryz.underlying27 (fun _=>rfl) (fun _=>rfl)) ?_
 refine ops_nil ?_
 refine nx_next ?_
 refine at_if_bool (fun _=>rfl) (fun hc1 => ?_) (fun hc1 => ?_)
 ·
  refine at_seq ?_
  refine at_region ?_
  refine op_v (p_assign (fun _=>rfl)) ?_
  refine op_v (p_assign (fun _=>rfl)) ?_
  refine ops_nil ?_
  refine nx_next ?_
  refine at_ret ?_
  refine nx_thru (by intro h; cases h) ?_
  refine nx_end2 (H' := _) rfl Tryz.results24 (fun _=>rfl) (fun _=>rfl) (by exact ⟨rfl, rfl⟩)
 ·
  cases hc1

theorem sane_spec (pa : Addr) (Tx Tg : TypeId) (zx zg : Nat × Nat) : DoesR Tryz.prog 6 #[] [[(4, .cells (kTab.map u32v).toArray Tg zg)], [(0, .cells #[.iface 274 (.pointer (some pa))] Tx zx)]] (.bool true) := by
 refine spec_enter Tryz.func6 rfl Tryz.ntmps6 rfl ?_
 intro u R
 refine at_slots (env' := []) [] rfl (fun _=>rfl) ?_
 refine at_seq ?_
 refine at_region ?_
 refine op_v (p_assign (fun _=>rfl)) ?_
 refine ops_nil ?_
 refine nx_next ?_
 refine at_seq ?_
 refine at_region ?_
 refine ops_eff (fun _=>rfl) (fits_of rfl) rfl (w_call (vs := [_]) (fun _=>rfl) Tryz.call23 (fun _=>rfl) rfl (new_state 200 (by decide) (by decide)) (by repeat (first | exact Pull.nil _ | (apply Pull.cons; (focus (repeat (first | exact One.here _ _ | apply One.there))))))) ?_ no_pan
 rintro _ _ ⟨_, ⟨dp, sd0, rfl, rfl, hR0⟩, rfl⟩
 have hD0 := JD.new 200 (by decide)
 have hv0 : (DiskS.new 200).vi.length = 200 := by simp [DiskS.new]
 refine op_v (p_move (fun _=>rfl)) ?_
 refine op_v (p_extract (fun _=>rfl) rfl) ?_
 refine op_v (p_extract (fun _=>rfl) rfl) ?_
 refine op_v (p_assign (fun _=>rfl)) ?_
 refine op_v (p_assign (fun _=>rfl)) ?_
 refine ops_nil ?_
 refine nx_next ?_
 refine at_seq ?_
 refine at_region ?_
 refine op_v (p_move (fun _=>rfl)) ?_
 refine ops_eff (fun _=>rfl) (fits_of rfl) rfl (w_call (vs := [_]) (fun _=>rfl) Tryz.call24 (fun _=>rfl) rfl (jr_open _ _ dp sd0 pa Tx Tg zx zg hD0 hR0) (by repeat (first | exact Pull.nil _ | (apply Pull.cons; (focus (repeat (first | exact One.here _ _ | apply One.there))))))) ?_ no_pan
 rintro _ _ ⟨_, ⟨jp, sj0, rfl, hJ0, rfl⟩, rfl⟩
 refine op_v (p_move (fun _=>rfl)) ?_
 refine op_v (p_extract (fun _=>rfl) rfl) ?_
 refine op_v (p_extract (fun _=>rfl) rfl) ?_
 refine op_v (p_assign (fun _=>rfl)) ?_
 refine op_v (p_assign (fun _=>rfl)) ?_
 refine ops_nil ?_
 refine nx_slots (env' := [(1, _), (3, _), (4, _)]) [1, 3, 4] rfl (fun _=>rfl) ?_
 refine nx_next ?_
 refine at_seq ?_
 refine at_seq ?_
 refine at_region ?_
 refine op_v (p_move (fun _=>rfl)) ?_
 first | refine op_v (p_eql_nil_nil Tryz.underlying28 (fun _=>rfl) (fun _=>rfl)) ?_ | refine op_v (p_eql_ptr_nil Tryz.underlying28 (fun _=>rfl) (fun _=>rfl)) ?_
 refine op_v (p_move (fun _=>rfl)) ?_
 first | refine ops_split (t := 26) (fun _=>rfl) rfl (fun hg1 => ?_) (fun hg1 => ?_) | refine ops_split_bool (t := 26) (fun _=>rfl) rfl (fun hg1 => ?_) (fun hg1 => ?_)
 ·
  exfalso; first | exact hg1 rfl | (cases hg1; done) | contradiction | omega | (simp_all; done)
 ·
  refine op_wg (fun _=>rfl) (p_move (fun _=>rfl)) rfl rfl ?_
  first | refine op_wg (fun _=>rfl) (p_neq_nat (n := 0) (fun _=>rfl) (fun _=>rfl)) rfl rfl ?_ | refine op_wg (fun _=>rfl) (p_neq (fun _=>rfl) (fun _=>rfl)) rfl rfl ?_
  refine op_v (p_pick_f (fun _=>rfl) (fun _=>rfl)) ?_
  refine op_v (p_move (fun _=>rfl)) ?_
  first | refine ops_split (t := 30) (fun _=>rfl) rfl (fun hg2 => ?_) (fun hg2 => ?_) | refine ops_split_bool (t := 30) (fun _=>rfl) rfl (fun hg2 => ?_) (fun hg2 => ?_)
  ·
   exfalso; first | exact hg2 rfl | (cases hg2; done) | contradiction | omega | (simp_all; done)
  ·
   refine op_wg (fun _=>rfl) (p_move (fun _=>rfl)) rfl rfl ?_
   refine ops_eff (fun _=>rfl) (fits_of rfl) rfl (w_call (vs := [_]) (fun _=>rfl) Tryz.call17 (fun _=>rfl) rfl (jr_records _ jp dp sj0 hJ0) (by repeat (first | exact Pull.nil _ | (apply Pull.cons; (focus (repeat (first | exact One.here _ _ | apply One.there))))))) ?_ no_pan
   rintro _ _ ⟨_, ⟨sr0, hr0, rfl⟩, rfl⟩
   obtain ⟨gr0, cr0, rfl⟩ := hr0.form
   refine op_wg (fun _=>rfl) (p_len_slice Tryz.underlying22 (fun _=>rfl)) rfl rfl ?_
   first | refine op_wg (fun _=>rfl) (p_neq_nat (n := 0) (fun _=>rfl) (fun _=>rfl)) rfl rfl ?_ | refine op_wg (fun _=>rfl) (p_neq (fun _=>rfl) (fun _=>rfl)) rfl rfl ?_
   refine op_v (p_pick_f (fun _=>rfl) (fun _=>rfl)) ?_
   refine op_v (p_move (fun _=>rfl)) ?_
   first | refine ops_split (t := 36) (fun _=>rfl) rfl (fun hg3 => ?_) (fun hg3 => ?_) | refine ops_split_bool (t := 36) (fun _=>rfl) rfl (fun hg3 => ?_) (fun hg3 => ?_)
   ·
    exfalso; first | exact hg3 rfl | (cases hg3; done) | contradiction | omega | (simp_all; done)
   ·
    refine op_wg (fun _=>rfl) (p_move (fun _=>rfl)) rfl rfl ?_
    refine op_e (w_callR (vs := [_]) (fun _=>rfl) Tryz.call18 (fun _=>rfl) rfl (jr_room _ _ jp dp sj0 sd0 hJ0 hR0 (Nat.zero_le _)) (by repeat (first | exact Pull.nil _ | (apply Pull.cons; (focus (repeat (first | exact One.here _ _ | apply One.there))))))) (fun _=>rfl) rfl rfl ?_
    rintro _ _ ⟨rfl, rfl⟩
    first | refine op_wg (fun _=>rfl) (p_neq_nat (n := 200) (fun _=>rfl) (fun _=>rfl)) rfl rfl ?_ | refine op_wg (fun _=>rfl) (p_neq (fun _=>rfl) (fun _=>rfl)) rfl rfl ?_
    refine op_v (p_pick_f (fun _=>rfl) (fun _=>rfl)) ?_
    refine ops_nil ?_
    refine nx_slots (env' := [(1, _), (3, _), (40, _)]) [1, 3, 40] rfl (fun _=>rfl) ?_
    refine nx_next ?_
    first | refine at_if (fun _=>rfl) (fun hg4 => ?_) (fun hg4 => ?_) | refine at_if_bool (fun _=>rfl) (fun hg4 => ?_) (fun hg4 => ?_)
    ·
     exfalso; first | exact hg4 rfl | (cases hg4; done) | contradiction | omega | (simp_all; done)
    ·
     refine at_skip ?_
     refine nx_next ?_
     refine at_seq ?_
     refine at_region ?_
     refine op_v (p_move (fun _=>rfl)) ?_
     refine op_e (w_buildSlice (vs := [_, _]) (cs := [_, _]) Tryz.underlying22 Tryz.sizeOf9 Tryz.zeroValue9 (fun _=>rfl) rfl rfl rfl rfl rfl) (fun _=>rfl) rfl rfl ?_
     rintro _ _ ⟨ga, rfl, rfl⟩
     refine ops_eff (fun _=>rfl) (fits_of rfl) rfl (w_call (vs := [_, _]) (fun _=>rfl) Tryz.call8 (fun _=>rfl) rfl (jd_append _ _ jp dp sj0 _ sd0 _ saneA Tg zg hD0 hJ0 hR0 (row_new _ ga (saneA.map strV) 2 rfl (by decide)) (by intro r hr; simp [saneA] at hr; rcases hr with rfl | rfl <;> simp) (by simp [saneA])) (by repeat (first | exact Pull.nil _ | (apply Pull.cons; (focus (repeat (first | exact One.here _ _ | apply One.there))))))) ?_ no_pan
     rintro _ _ ⟨_, ⟨e1, j1, d1, sj1, sd1, rfl, hD1, hv1, ho1, hJ1, hR1, rfl⟩, rfl⟩
     rw [saneA_len] at ho1
     have hx1 : e1 = 0 ∧ j1.rs = saneA ∧ j1.sz = 70 := by rcases ho1 with ⟨h, _⟩ | ⟨_, h1, h2, h3⟩; (exfalso; simp only at h; omega); exact ⟨h1, h2, h3⟩
     obtain ⟨rfl, hrs1, hz1⟩ := hx1
     rw [hv0] at hv1
     refine op_v (p_assign (fun _=>rfl)) ?_
     refine ops_nil ?_
     refine nx_next ?_
     refine at_seq ?_
     refine at_region ?_
     refine op_v (p_move (fun _=>rfl)) ?_
     refine op_e (w_makeSlice (by_ := 1) (l := 96) (c := 96) Tryz.underlying39 (rfl : Tryz.prog.info? 5 = some Tryz.t5) rfl rfl rfl rfl (fun _=>rfl) (fun _=>rfl) ?_ ?_ ?_) (fun _=>rfl) rfl rfl ?_
     (focus (decide))
     (focus (decide))
     (focus (decide))
     rintro _ _ ⟨ma, rfl, rfl⟩
     refine op_r (by repeat (first | exact Has.here _ | apply Has.there)) (p_conv_bytes_str Tryz.underlying39 Tryz.underlying5 Tryz.underlying9 (fun _=>rfl) (by exact (show (_ = List.map u8v (List.replicate 96 0)) ∧ _ from ⟨rfl, rfl⟩))) rfl rfl ?_
     refine op_e (w_buildSlice (vs := [_]) (cs := [_]) Tryz.underlying22 Tryz.sizeOf9 Tryz.zeroValue9 (fun _=>rfl) rfl rfl rfl rfl rfl) (fun _=>rfl) rfl rfl ?_
     rintro _ _ ⟨gb, rfl, rfl⟩
     refine ops_eff (fun _=>rfl) (fits_of rfl) rfl (w_call (vs := [_, _]) (fun _=>rfl) Tryz.call8 (fun _=>rfl) rfl (jd_append _ _ jp dp sj1 _ sd1 _ saneB Tg zg hD1 hJ1 hR1 (row_new _ gb (saneB.map strV) 1 rfl (by decide)) (by intro r hr; simp [saneB] at hr; rcases hr with rfl | rfl <;> simp) (by simp [saneB])) (by repeat (first | exact Pull.nil _ | (apply Pull.cons; (focus (repeat (first | exact One.here _ _ | apply One.there))))))) ?_ no_pan
     rintro _ _ ⟨_, ⟨e2, j2, d2, sj2, sd2, rfl, hD2, hv2, ho2, hJ2, hR2, rfl⟩, rfl⟩
     rw [saneB_len] at ho2
     have hx2 : e2 = 231 ∧ j2 = j1 ∧ d2 = d1 := by rcases ho2 with ⟨_, h1, h2, h3⟩ | ⟨h, _⟩; exact ⟨h1, h2, h3⟩; (exfalso; omega)
     obtain ⟨rfl, rfl, rfl⟩ := hx2
     refine op_v (p_assign (fun _=>rfl)) ?_
     refine ops_nil ?_
     refine nx_next ?_
     refine at_seq ?_
     refine at_region ?_
     refine op_v (p_move (fun _=>rfl)) ?_
     refine op_e (w_callR (vs := [_]) (fun _=>rfl) Tryz.call18 (fun _=>rfl) rfl (jr_room _ _ jp dp sj2 sd2 hJ2 hR2 hD2.fit) (by repeat (first | exact Pull.nil _ | (apply Pull.cons; (focus (repeat (first | exact One.here _ _ | apply One.there))))))) (fun _=>rfl) rfl rfl ?_
     rintro _ _ ⟨rfl, rfl⟩
     refine op_v (p_assign (fun _=>rfl)) ?_
     refine ops_nil ?_
     refine nx_slots (env' := [(1, _), (3, _), (5, _), (6, _), (7, _)]) [1, 3, 5, 6, 7] rfl (fun _=>rfl) ?_
     refine nx_next ?_
     refine at_seq ?_
     refine at_region ?_
     refine op_v (p_move (fun _=>rfl)) ?_
     refine op_e (w_makeSlice (by_ := 1) (l := 95) (c := 95) Tryz.underlying39 (rfl : Tryz.prog.info? 5 = some Tryz.t5) rfl rfl rfl rfl (fun _=>rfl) (fun _=>rfl) ?_ ?_ ?_) (fun _=>rfl) rfl rfl ?_
     (focus (decide))
     (focus (decide))
     (focus (decide))
     rintro _ _ ⟨mc, rfl, rfl⟩
     refine op_r (by repeat (first | exact Has.here _ | apply Has.there)) (p_conv_bytes_str Tryz.underlying39 Tryz.underlying5 Tryz.underlying9 (fun _=>rfl) (by exact (show (_ = List.map u8v (List.replicate 95 0)) ∧ _ from ⟨rfl, rfl⟩))) rfl rfl ?_
     refine op_e (w_buildSlice (vs := [_]) (cs := [_]) Tryz.underlying22 Tryz.sizeOf9 Tryz.zeroValue9 (fun _=>rfl) rfl rfl rfl rfl rfl) (fun _=>rfl) rfl rfl ?_
     rintro _ _ ⟨gc, rfl, rfl⟩
     refine ops_eff (fun _=>rfl) (fits_of rfl) rfl (w_call (vs := [_, _]) (fun _=>rfl) Tryz.call8 (fun _=>rfl) rfl (jd_append _ _ jp dp sj2 _ sd2 _ saneC Tg zg hD2 hJ2 hR2 (row_new _ gc (saneC.map strV) 1 rfl (by decide)) (by intro r hr; simp [saneC] at hr; rcases hr with rfl | rfl <;> simp) (by simp [saneC])) (by repeat (first | exact Pull.nil _ | (apply Pull.cons; (focus (repeat (first | exact One.here _ _ | apply One.there))))))) ?_ no_pan
     rintro _ _ ⟨_, ⟨e3, j3, d3, sj3, sd3, rfl, hD3, hv3, ho3, hJ3, hR3, rfl⟩, rfl⟩
     rw [saneC_len] at ho3
     have hx3 : e3 = 0 ∧ j3.rs = saneA ++ saneC ∧ j3.sz = 200 := by rcases ho3 with ⟨h, _⟩ | ⟨_, h1, h2, h3⟩; (exfalso; omega); exact ⟨h1, by rw [h2, hrs1], by omega⟩
     obtain ⟨rfl, hrs3, hz3⟩ := hx3
     refine op_v (p_assign (fun _=>rfl)) ?_
     refine ops_nil ?_
     refine nx_next ?_
     refine at_seq ?_
     refine at_region ?_
     refine op_v (p_move (fun _=>rfl)) ?_
     refine ops_eff (fun _=>rfl) (fits_of rfl) rfl (w_call (vs := [_]) (fun _=>rfl) Tryz.call24 (fun _=>rfl) rfl (jr_open _ _ dp sd3 pa Tx Tg zx zg hD3 hR3) (by repeat (first | exact Pull.nil _ | (apply Pull.cons; (focus (repeat (first | exact One.here _ _ | apply One.there))))))) ?_ no_pan
     rintro _ _ ⟨_, ⟨kp, sk, rfl, hK, rfl⟩, rfl⟩
     refine op_v (p_move (fun _=>rfl)) ?_
     refine op_v (p_extract (fun _=>rfl) rfl) ?_
     refine op_v (p_extract (fun _=>rfl) rfl) ?_
     refine op_v (p_assign (fun _=>rfl)) ?_
     refine op_v (p_assign (fun _=>rfl)) ?_
     refine ops_nil ?_
     refine nx_slots (env' := [(1, _), (3, _), (5, _), (6, _), (7, _), (8, _), (9, _), (10, _)]) [1, 3, 5, 6, 7, 8, 9, 10] rfl (fun _=>rfl) ?_
     refine nx_next ?_
     refine at_seq ?_
     refine at_seq ?_
     refine at_region ?_
     refine op_v (p_move (fun _=>rfl)) ?_
     first | refine op_v (p_eql_nil_nil Tryz.underlying28 (fun _=>rfl) (fun _=>rfl)) ?_ | refine op_v (p_eql_ptr_nil Tryz.underlying28 (fun _=>rfl) (fun _=>rfl)) ?_
     refine ops_nil ?_
     refine nx_next ?_
     first | refine at_if (fun _=>rfl) (fun hg5 => ?_) (fun hg5 => ?_) | refine at_if_bool (fun _=>rfl) (fun hg5 => ?_) (fun hg5 => ?_)
     ·
      exfalso; first | exact hg5 rfl | (cases hg5; done) | contradiction | omega | (simp_all; done)
     ·
      refine at_skip ?_
      refine nx_next ?_
      refine at_seq ?_
      refine at_region ?_
      refine op_v (p_move (fun _=>rfl)) ?_
      refine ops_eff (fun _=>rfl) (fits_of rfl) rfl (w_call (vs := [_, _, _]) (fun _=>rfl) Tryz.call11 (fun _=>rfl) rfl (disk_write _ dp sd3 hR3 0 [2] (by simp; omega) (by omega) (by rw [hD3.pend]; simp)) (by repeat (first | exact Pull.nil _ | (apply Pull.cons; (focus (repeat (first | exact One.here _ _ | apply One.there))))))) ?_ no_pan
      rintro _ _ ⟨_, ⟨sd4, rfl, rfl, hR4⟩, rfl⟩
      obtain ⟨ho4, hl4, hv4⟩ := hD3.spoil (by omega)
      refine ops_nil ?_
      refine nx_next ?_
      refine at_seq ?_
      refine at_region ?_
      refine op_v (p_move (fun _=>rfl)) ?_
      refine op_e (w_callR (vs := [_]) (fun _=>rfl) Tryz.call24 (fun _=>rfl) rfl (open_damaged dp _ sd4 pa Tx Tg zx zg hR4 ho4 hl4) (by repeat (first | exact Pull.nil _ | (apply Pull.cons; (focus (repeat (first | exact One.here _ _ | apply One.there))))))) (fun _=>rfl) rfl rfl ?_
      rintro _ _ ⟨rfl, rfl⟩
      refine op_v (p_move (fun _=>rfl)) ?_
      refine op_v (p_extract (fun _=>rfl) rfl) ?_
      refine op_v (p_extract (fun _=>rfl) rfl) ?_
      refine op_v (p_assign (fun _=>rfl)) ?_
      refine op_v (p_assign (fun _=>rfl)) ?_
      refine ops_nil ?_
      refine nx_next ?_
      refine at_seq ?_
      refine at_region ?_
      refine op_e (w_callR (vs := [_]) (fun _=>rfl) Tryz.call24 (fun _=>rfl) rfl (open_nil) (by repeat (first | exact Pull.nil _ | (apply Pull.cons; (focus (repeat (first | exact One.here _ _ | apply One.there))))))) (fun _=>rfl) rfl rfl ?_
      rintro _ _ ⟨rfl, rfl⟩
      refine op_v (p_move (fun _=>rfl)) ?_
      refine op_v (p_extract (fun _=>rfl) rfl) ?_
      refine op_v (p_extract (fun _=>rfl) rfl) ?_
      refine op_v (p_assign (fun _=>rfl)) ?_
      refine op_v (p_assign (fun _=>rfl)) ?_
      refine ops_nil ?_
      refine nx_slots (env' := [(3, _), (5, _), (6, _), (7, _), (8, _), (9, _), (10, _), (12, _), (14, _)]) [3, 5, 6, 7, 8, 9, 10, 12, 14] rfl (fun _=>rfl) ?_
      refine nx_next ?_
      refine at_seq ?_
      refine at_region ?_
      refine op_v (p_move (fun _=>rfl)) ?_
      first | refine op_v (p_eql_nat (n := 0) (fun _=>rfl) (fun _=>rfl)) ?_ | refine op_v (p_eql (fun _=>rfl) (fun _=>rfl)) ?_
      refine op_v (p_move (fun _=>rfl)) ?_
      first | refine ops_split (t := 76) (fun _=>rfl) rfl (fun hk1 => ?_) (fun hk1 => ?_) | refine ops_split_bool (t := 76) (fun _=>rfl) rfl (fun hk1 => ?_) (fun hk1 => ?_)
      ·
       refine op_wg (fun _=>rfl) (p_move (fun _=>rfl)) rfl rfl ?_
       first | refine op_wg (fun _=>rfl) (p_eql_nat (n := 231) (fun _=>rfl) (fun _=>rfl)) rfl rfl ?_ | refine op_wg (fun _=>rfl) (p_eql (fun _=>rfl) (fun _=>rfl)) rfl rfl ?_
       refine op_v (p_pick_t (fun _=>rfl) (fun _=>rfl)) ?_
       refine op_v (p_move (fun _=>rfl)) ?_
       first | refine ops_split (t := 80) (fun _=>rfl) rfl (fun hk2 => ?_) (fun hk2 => ?_) | refine ops_split_bool (t := 80) (fun _=>rfl) rfl (fun hk2 => ?_) (fun hk2 => ?_)
       ·
        refine op_wg (fun _=>rfl) (p_move (fun _=>rfl)) rfl rfl ?_
        first | refine op_wg (fun _=>rfl) (p_eql_nat (n := 130) (fun _=>rfl) (fun _=>rfl)) rfl rfl ?_ | refine op_wg (fun _=>rfl) (p_eql (fun _=>rfl) (fun _=>rfl)) rfl rfl ?_
        refine op_v (p_pick_t (fun _=>rfl) (fun _=>rfl)) ?_
        refine op_v (p_move (fun _=>rfl)) ?_
        first | refine ops_split (t := 84) (fun _=>rfl) rfl (fun hk3 => ?_) (fun hk3 => ?_) | refine ops_split_bool (t := 84) (fun _=>rfl) rfl (fun hk3 => ?_) (fun hk3 => ?_)
        ·
         refine op_wg (fun _=>rfl) (p_move (fun _=>rfl)) rfl rfl ?_
         first | refine op_wg (fun _=>rfl) (p_eql_nat (n := 0) (fun _=>rfl) (fun _=>rfl)) rfl rfl ?_ | refine op_wg (fun _=>rfl) (p_eql (fun _=>rfl) (fun _=>rfl)) rfl rfl ?_
         refine op_v (p_pick_t (fun _=>rfl) (fun _=>rfl)) ?_
         refine op_v (p_move (fun _=>rfl)) ?_
         first | refine ops_split (t := 88) (fun _=>rfl) rfl (fun hk4 => ?_) (fun hk4 => ?_) | refine ops_split_bool (t := 88) (fun _=>rfl) rfl (fun hk4 => ?_) (fun hk4 => ?_)
         ·
          refine op_wg (fun _=>rfl) (p_move (fun _=>rfl)) rfl rfl ?_
          refine op_e (w_callR (vs := [_]) (fun _=>rfl) Tryz.call18 (fun _=>rfl) rfl (jr_room _ _ jp dp sj3 sd4 hJ3 hR4 (by omega)) (by repeat (first | exact Pull.nil _ | (apply Pull.cons; (focus (repeat (first | exact One.here _ _ | apply One.there))))))) (fun _=>rfl) rfl rfl ?_
          rintro _ _ ⟨rfl, rfl⟩
          first | refine op_wg (fun _=>rfl) (p_eql_nat (n := 0) (fun _=>rfl) (fun _=>rfl)) rfl rfl ?_ | refine op_wg (fun _=>rfl) (p_eql (fun _=>rfl) (fun _=>rfl)) rfl rfl ?_
          refine op_v (p_pick_t (fun _=>rfl) (fun _=>rfl)) ?_
          refine op_v (p_move (fun _=>rfl)) ?_
          first | refine ops_split (t := 93) (fun _=>rfl) rfl (fun hk5 => ?_) (fun hk5 => ?_) | refine ops_split_bool (t := 93) (fun _=>rfl) rfl (fun hk5 => ?_) (fun hk5 => ?_)
          ·
           refine op_wg (fun _=>rfl) (p_move (fun _=>rfl)) rfl rfl ?_
           first | refine op_wg (fun _=>rfl) (p_eql_nat (n := 0) (fun _=>rfl) (fun _=>rfl)) rfl rfl ?_ | refine op_wg (fun _=>rfl) (p_eql (fun _=>rfl) (fun _=>rfl)) rfl rfl ?_
           refine op_v (p_pick_t (fun _=>rfl) (fun _=>rfl)) ?_
           refine op_v (p_move (fun _=>rfl)) ?_
           first | refine ops_split (t := 97) (fun _=>rfl) rfl (fun hk6 => ?_) (fun hk6 => ?_) | refine ops_split_bool (t := 97) (fun _=>rfl) rfl (fun hk6 => ?_) (fun hk6 => ?_)
           ·
            refine op_wg (fun _=>rfl) (p_move (fun _=>rfl)) rfl rfl ?_
            refine ops_eff (fun _=>rfl) (fits_of rfl) rfl (w_call (vs := [_]) (fun _=>rfl) Tryz.call17 (fun _=>rfl) rfl (jr_records _ kp dp sk hK) (by repeat (first | exact Pull.nil _ | (apply Pull.cons; (focus (repeat (first | exact One.here _ _ | apply One.there))))))) ?_ no_pan
            rintro _ _ ⟨_, ⟨sr5, hr5, rfl⟩, rfl⟩
            rw [hrs3] at hr5
            obtain ⟨gr5, cr5, rfl⟩ := hr5.form
            refine op_wg (fun _=>rfl) (p_len_slice Tryz.underlying22 (fun _=>rfl)) rfl rfl ?_
            first | refine op_wg (fun _=>rfl) (p_eql_nat (n := 3) (fun _=>rfl) (fun _=>rfl)) rfl rfl ?_ | refine op_wg (fun _=>rfl) (p_eql (fun _=>rfl) (fun _=>rfl)) rfl rfl ?_
            refine op_v (p_pick_t (fun _=>rfl) (fun _=>rfl)) ?_
            refine op_v (p_move (fun _=>rfl)) ?_
            first | refine ops_split (t := 103) (fun _=>rfl) rfl (fun hk7 => ?_) (fun hk7 => ?_) | refine ops_split_bool (t := 103) (fun _=>rfl) rfl (fun hk7 => ?_) (fun hk7 => ?_)
            ·
             refine op_wg (fun _=>rfl) (p_move (fun _=>rfl)) rfl rfl ?_
             refine ops_eff (fun _=>rfl) (fits_of rfl) rfl (w_call (vs := [_]) (fun _=>rfl) Tryz.call17 (fun _=>rfl) rfl (jr_records _ kp dp sk hK) (by repeat (first | exact Pull.nil _ | (apply Pull.cons; (focus (repeat (first | exact One.here _ _ | apply One.there))))))) ?_ no_pan
             rintro _ _ ⟨_, ⟨sr6, hr6, rfl⟩, rfl⟩
             rw [hrs3] at hr6
             obtain ⟨g6, c6, cur6, z6, rfl, rfl, hle6, hcm6, hcs6, htk6, hfr6⟩ := hr6.some (by decide)
             first | (refine op_wg (fun _=>rfl) (p_indexAddr_nat0 (j := 0) Tryz.underlying22 Tryz.sizeOf9 (fun _=>rfl) (fun _=>rfl) ?_) rfl rfl ?_; (focus (decide))) | (refine op_wg (fun _=>rfl) (p_indexAddr_nat1 (j := 0) Tryz.underlying22 Tryz.sizeOf9 (fun _=>rfl) (fun _=>rfl) ?_) rfl rfl ?_; (focus (decide)))
             refine op_rg (fun _=>rfl) (by repeat (first | exact Has.here _ | apply Has.there)) (p_load Tryz.isAgg9 (fun _=>rfl) (by exact take_get (x := strV [97, 98]) htk6 (by decide) rfl)) rfl rfl ?_
             refine op_wg (fun _=>rfl) (p_eql_str (fun _=>rfl) (fun _=>rfl)) rfl rfl ?_
             refine op_v (p_pick_t (fun _=>rfl) (fun _=>rfl)) ?_
             refine op_v (p_move (fun _=>rfl)) ?_
             first | refine ops_split (t := 110) (fun _=>rfl) rfl (fun hk8 => ?_) (fun hk8 => ?_) | refine ops_split_bool (t := 110) (fun _=>rfl) rfl (fun hk8 => ?_) (fun hk8 => ?_)
             ·
              refine op_wg (fun _=>rfl) (p_move (fun _=>rfl)) rfl rfl ?_
              first | refine op_wg (fun _=>rfl) (p_eql_nat (n := 232) (fun _=>rfl) (fun _=>rfl)) rfl rfl ?_ | refine op_wg (fun _=>rfl) (p_eql (fun _=>rfl) (fun _=>rfl)) rfl rfl ?_
              refine op_v (p_pick_t (fun _=>rfl) (fun _=>rfl)) ?_
              refine op_v (p_move (fun _=>rfl)) ?_
              first | refine ops_split (t := 114) (fun _=>rfl) rfl (fun hk9 => ?_) (fun hk9 => ?_) | refine ops_split_bool (t := 114) (fun _=>rfl) rfl (fun hk9 => ?_) (fun hk9 => ?_)
              ·
               refine op_wg (fun _=>rfl) (p_move (fun _=>rfl)) rfl rfl ?_
               first | refine op_wg (fun _=>rfl) (p_eql_nat (n := 1) (fun _=>rfl) (fun _=>rfl)) rfl rfl ?_ | refine op_wg (fun _=>rfl) (p_eql (fun _=>rfl) (fun _=>rfl)) rfl rfl ?_
               refine op_v (p_pick_t (fun _=>rfl) (fun _=>rfl)) ?_
               refine op_v (p_assign (fun _=>rfl)) ?_
               refine ops_nil ?_
               refine nx_slots (env' := [(0, _)]) [0] rfl (fun _=>rfl) ?_
               refine nx_next ?_
               refine at_ret ?_
               refine nx_end1 (H' := _) rfl Tryz.results6 (fun _=>rfl) (by exact ⟨rfl, rfl⟩)
              ·
               exfalso; first | exact hk9 rfl | (cases hk9; done) | contradiction | omega | (simp_all; done)
             ·
              exfalso; first | exact hk8 rfl | (cases hk8; done) | contradiction | omega | (simp_all; done)
            ·
             exfalso; first | exact hk7 rfl | (cases hk7; done) | contradiction | omega | (simp_all; done)
           ·
            exfalso; first | exact hk6 rfl | (cases hk6; done) | contradiction | omega | (simp_all; done)
          ·
           exfalso; first | exact hk5 rfl | (cases hk5; done) | contradiction | omega | (simp_all; done)
         ·
          exfalso; first | exact hk4 rfl | (cases hk4; done) | contradiction | omega | (simp_all; done)
        ·
         exfalso; first | exact hk3 rfl | (cases hk3; done) | contradiction | omega | (simp_all; done)
       ·
        exfalso; first | exact hk2 rfl | (cases hk2; done) | contradiction | omega | (simp_all; done)
      ·
       exfalso; first | exact hk1 rfl | (cases hk1; done) | contradiction | omega | (simp_all; done)

end Go.Proofs.YtdahnapibeepkaaGreatDoor
