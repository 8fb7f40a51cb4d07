/- sane: its numbers. A journal and its disk: Append, Open at nil, a spoilt disk. sane. -/
import Derived.Test.YtohgibkpkknfnaaGreatDoorJm2
import Derived.Test.YtohgibkpkknfnaaGreatDoorOp3
import Derived.Test.YtohgibkpkknfnaaGreatDoorAp4
namespace Go.Proofs.YtohgibkpkknfnaaGreatDoor
open Go Go.RowKit Gw
set_option linter.unusedVariables false
set_option maxRecDepth 100000
attribute [local irreducible] Gw.At Gw.Nx Gw.Ops
theorem encI_one (n : Nat) (h : n < 64) : (encI (n : Int)).length = 1 := by
  unfold encI; rw [zz_nat, grps_eq, if_pos (by omega)]; rfl
theorem encI_two (n : Nat) (h : 64 ≤ n) (h2 : n < 8192) : (encI (n : Int)).length = 2 := by
  unfold encI; rw [zz_nat, grps_eq, if_neg (by omega), grps_eq, if_pos (by omega)]; rfl
theorem recS_one (h r : List UInt8) (hr : r.length < 64) : (recS h r).length = 34 + r.length := by
  rw [recS_len h r (by omega)]; unfold encS; rw [List.length_append, encI_one _ hr]; omega
theorem recS_two (h r : List UInt8) (h1 : 64 ≤ r.length) (h2 : r.length < 8192) : (recS h r).length = 35 + r.length := by
  rw [recS_len h r (by omega)]; unfold encS; rw [List.length_append, encI_two _ h1 h2]; omega
/-- A disk whose first byte is neither 0 nor 1 is damaged. -/
theorem load_bad (b : UInt8) (t : List UInt8) (h0 : b.toNat ≠ 0) (h1 : b.toNat ≠ 1) : loadL (b :: t) ((b :: t).length + 1) [] zero32 0 = none := by
  rw [loadL, List.getElem?_cons_zero]
  simp only
  rw [if_neg h0, if_neg h1]
def saneA : List (List UInt8) := [[97, 98], []]
def saneB : List (List UInt8) := [List.replicate 96 0]
def saneC : List (List UInt8) := [List.replicate 95 0]
theorem saneA_len (h : List UInt8) : (outL h saneA).length = 70 := by
  have a := recS_one h [97, 98] (by decide)
  have b := recS_one (chainS h [97, 98]) [] (by decide)
  simp only [saneA, outL, List.length_append, a, b, List.length_cons, List.length_nil]
theorem saneB_len (h : List UInt8) : (outL h saneB).length = 131 := by
  have a := recS_two h (List.replicate 96 0) (by decide) (by decide)
  simp only [saneB, outL, List.length_append, a, List.length_replicate, List.length_nil]
theorem saneC_len (h : List UInt8) : (outL h saneC).length = 130 := by
  have a := recS_two h (List.replicate 95 0) (by decide) (by decide)
  simp only [saneC, outL, List.length_append, a, List.length_replicate, List.length_nil]

theorem take_get {cur : Array Value} {xs : List Value} {n i : Nat} {x : Value} (h : cur.toList.take n = xs) (hi : i < n) (hx : xs[i]? = some x) : cur[i]? = some x := by
  rw [← Array.getElem?_toList, ← hx, ← h, List.getElem?_take, if_pos hi]
theorem JD.count {j : JrS} {d : DiskS} (hj : JD j d) : j.rs.length ≤ d.vi.length := by
  have : ∀ (ls : List (List UInt8)) (h : List UInt8), (∀ r ∈ ls, r.length ≤ 65536) → ls.length ≤ (outL h ls).length := by
    intro ls
    induction ls with
    | nil => intro h _; simp [outL]
    | cons x t ih =>
      intro h hl
      have h1 := recS_len h x (hl x (by simp))
      have h2 := ih (chainS h x) (fun r hr => hl r (by simp [hr]))
      simp only [outL, List.length_append, List.length_cons]; omega
  have h1 := this j.rs zero32 hj.short
  have h2 := hj.sz
  have h3 := hj.fit
  omega
theorem isLong_none {ls : List (List UInt8)} (hs : ∀ r ∈ ls, r.length ≤ 65536) : ls.any isLong = false := by
  rw [List.any_eq_false]
  intro r hr
  have := hs r hr
  unfold isLong
  simp; omega
theorem jd_append (j : JrS) (d : DiskS) (jp dp : Nat) (sj sl sd : List Chunk) (v : Value) (ls : List (List UInt8)) (Tg : TypeId) (zg : Nat × Nat) (hD : JD j d) (hJ : JrR j jp dp sj) (hR : DiskR d dp sd) (hl : Row 9 v (ls.map strV) sl) (hs : ∀ r ∈ ls, r.length ≤ 65536) (hls : ls.length ≤ 1000000) :
    Does Tryz.prog 21 #[.pointer (some ⟨jp, 0, none⟩), v] [sj, sl, sd, [(3, .cells (kTab.map u32v).toArray Tg zg)]] (fun r H' => ∃ (e : Int) (j' : JrS) (d' : DiskS) (sj' sd' : List Chunk), r = .int .i64 e ∧ JD j' d' ∧ d'.vi.length = d.vi.length ∧
      ((d.vi.length < j.sz + (outL j.h ls).length ∧ e = 231 ∧ j' = j ∧ d' = d) ∨ (j.sz + (outL j.h ls).length ≤ d.vi.length ∧ e = 0 ∧ j'.rs = j.rs ++ ls ∧ j'.sz = j.sz + (outL j.h ls).length)) ∧
      JrR j' jp dp sj' ∧ DiskR d' dp sd' ∧ H' = [sj', sl, sd', [(3, .cells (kTab.map u32v).toArray Tg zg)]]) := by
  refine does_mono (jr_append j d jp dp sj sl sd v ls Tg zg hJ hR hl hD.br hD.fit (by rw [hD.pend]; simp) hls (isLong_none hs)) ?_
  rintro r _ ⟨v', sr', sd', rfl, h1, h2, rfl⟩
  obtain ⟨a1, a2, a3⟩ := JD.append hD ls hs
  have a4 := a1.count
  have a5 : (j.append d ls).2.2.vi.length ≤ 4194304 := h2.1.2.2.1
  exact ⟨_, ⟨_, _, _, _, _, rfl, a1, a2, a3, ⟨by rw [a1.head]; exact headL_len _ _ rfl, by omega, v', sr', h1, rfl⟩, h2, rfl⟩, by simp⟩
theorem JD.spoil {j : JrS} {d : DiskS} (hj : JD j d) (h0 : 0 < d.vi.length) : (d.write 0 [2]).2.off = false ∧ loadL (d.write 0 [2]).2.vi ((d.write 0 [2]).2.vi.length + 1) [] zero32 0 = none ∧ (d.write 0 [2]).2.vi.length = d.vi.length := by
  obtain ⟨off, left, du, vi, pend⟩ := d
  have h1 := hj.off
  have h2 := hj.left
  simp only at h0 h1 h2
  subst h1 h2
  refine ⟨by simp [DiskS.write, usedOff], ?_⟩
  simp only [DiskS.write, Bool.false_eq_true, if_false, splice, List.take_zero, List.nil_append]
  refine ⟨load_bad 2 _ (by decide) (by decide), ?_⟩
  simp; omega

theorem open_nil : DoesR Tryz.prog 28 #[.pointer none] [] (.tuple #[.pointer none, .int .i64 1]) := by
  refine spec_enter Tryz.func28 rfl Tryz.ntmps28 rfl ?_
  intro u R
  refine at_slots (env' := [(0, _)]) [0] rfl (fun _ => rfl) ?_
  refine at_seq ?_
  refine at_region ?_
  refine op_w (p_assign (fun _ => rfl)) rfl rfl ?_
  refine op_w (p_assign (fun _ => rfl)) rfl rfl ?_
  refine ops_nil ?_
  refine nx_slots (env' := [(0, _)]) [0] rfl (fun _ => rfl) ?_
  refine nx_next ?_
  refine at_seq ?_
  refine at_seq ?_
  refine at_region ?_
  refine op_w (p_move (fun _ => rfl)) rfl rfl ?_
  first | refine op_w (p_eql_nil_nil Tryz.underlying25 (fun _ => rfl) (fun _ => rfl)) rfl rfl ?_ | refine op_w (p_eql_ptr_nil Tryz.underlying25 (fun _ => rfl) (fun _ => rfl)) rfl rfl ?_
  refine ops_nil ?_
  refine nx_slots (env' := [(0, _), (8, _)]) [0, 8] rfl (fun _ => rfl) ?_
  refine nx_next ?_
  refine at_if_bool (fun _ => rfl) (fun hc1 => ?_) (fun hc1 => ?_)
  ·
    refine at_seq ?_
    refine at_region ?_
    refine op_w (p_assign (fun _ => rfl)) rfl rfl ?_
    refine op_w (p_assign (fun _ => rfl)) rfl rfl ?_
    refine ops_nil ?_
    refine nx_slots (env' := [(2, _), (3, _)]) [2, 3] rfl (fun _ => rfl) ?_
    refine nx_next ?_
    refine at_ret ?_
    refine nx_thru (by intro h; cases h) ?_
    refine nx_end2 (H' := _) rfl Tryz.results28 (fun _ => rfl) (fun _ => rfl) (by exact ⟨rfl, rfl⟩) ?hp_1
    case hp_1 => repeat (first | exact Sub.refl _ | exact Sub.nil _ | (apply Sub.cons; (focus (repeat (first | exact One.here _ _ | apply One.there)))) | refine Sub.drop _ ?_)
  ·
    cases hc1

end Go.Proofs.YtohgibkpkknfnaaGreatDoor
