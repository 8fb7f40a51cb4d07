/- A journal and its disk: Append, Open at nil, a spoilt disk. -/
import Derived.Test.YtddblcjcodejaaaDoorSn1
import Derived.Test.YtddblcjcodejaaaDoorOp3
import Derived.Test.YtddblcjcodejaaaDoorAp4
namespace Go.Proofs.YtddblcjcodejaaaDoor
open Go Go.RowKit Gw
set_option linter.unusedVariables false
set_option maxRecDepth 100000
attribute [local irreducible] Gw.At Gw.Nx Gw.Ops
theorem take_get {cur : Array Value} {xs : List Value} {n i : Nat} {x : Value} (h : cur.toList.take n = xs) (hi : i < n) (hx : xs[i]? = some x) : cur[i]? = some x := by
  rw [← Array.getElem?_toList, ← hx, ← h, List.getElem?_take, if_pos hi]
theorem JD.count {j : JrS} {d : DiskS} (hj : JD j d) : j.rs.length ≤ d.vi.length := by
  have : ∀ (ls : List (List UInt8)) (h : List UInt8), (∀ r ∈ ls, r.length ≤ 65536) → ls.length ≤ (outL h ls).length := by
    intro ls
    induction ls with
    | nil => intro h _; simp [outL]
    | cons x t ih =>
      intro h hl
      have h1 := recS_len h x (hl x (by simp))
      have h2 := ih (chainS h x) (fun r hr => hl r (by simp [hr]))
      simp only [outL, List.length_append, List.length_cons]; omega
  have h1 := this j.rs zero32 hj.short
  have h2 := hj.sz
  have h3 := hj.fit
  omega
theorem isLong_none {ls : List (List UInt8)} (hs : ∀ r ∈ ls, r.length ≤ 65536) : ls.any isLong = false := by
  rw [List.any_eq_false]
  intro r hr
  have := hs r hr
  unfold isLong
  simp; omega
theorem jd_append (j : JrS) (d : DiskS) (jp dp : Nat) (sj sl sd : List Chunk) (v : Value) (ls : List (List UInt8)) (Tg : TypeId) (zg : Nat × Nat) (hD : JD j d) (hJ : JrR j jp dp sj) (hR : DiskR d dp sd) (hl : Row 9 v (ls.map strV) sl) (hs : ∀ r ∈ ls, r.length ≤ 65536) (hls : ls.length ≤ 1000000) :
    Does Tryd.prog 11 #[.pointer (some ⟨jp, 0, none⟩), v] [sj, sl, sd, [(4, .cells (kTab.map u32v).toArray Tg zg)]] (fun r H' => ∃ (e : Int) (j' : JrS) (d' : DiskS) (sj' sd' : List Chunk), r = .int .i64 e ∧ JD j' d' ∧ d'.vi.length = d.vi.length ∧
      ((d.vi.length < j.sz + (outL j.h ls).length ∧ e = 231 ∧ j' = j ∧ d' = d) ∨ (j.sz + (outL j.h ls).length ≤ d.vi.length ∧ e = 0 ∧ j'.rs = j.rs ++ ls ∧ j'.sz = j.sz + (outL j.h ls).length)) ∧
      JrR j' jp dp sj' ∧ DiskR d' dp sd' ∧ H' = [sj', sl, sd', [(4, .cells (kTab.map u32v).toArray Tg zg)]]) := by
  refine does_mono (jr_append j d jp dp sj sl sd v ls Tg zg hJ hR hl hD.br hD.fit (by rw [hD.pend]; simp) hls (isLong_none hs)) ?_
  rintro r _ ⟨v', sr', sd', rfl, h1, h2, rfl⟩
  obtain ⟨a1, a2, a3⟩ := JD.append hD ls hs
  have a4 := a1.count
  have a5 : (j.append d ls).2.2.vi.length ≤ 4194304 := h2.1.2.2.1
  exact ⟨_, ⟨_, _, _, _, _, rfl, a1, a2, a3, ⟨by rw [a1.head]; exact headL_len _ _ rfl, by omega, v', sr', h1, rfl⟩, h2, rfl⟩, by simp⟩
theorem JD.spoil {j : JrS} {d : DiskS} (hj : JD j d) (h0 : 0 < d.vi.length) : (d.write 0 [2]).2.off = false ∧ loadL (d.write 0 [2]).2.vi ((d.write 0 [2]).2.vi.length + 1) [] zero32 0 = none ∧ (d.write 0 [2]).2.vi.length = d.vi.length := by
  obtain ⟨off, left, du, vi, pend⟩ := d
  have h1 := hj.off
  have h2 := hj.left
  simp only at h0 h1 h2
  subst h1 h2
  refine ⟨by simp [DiskS.write, usedOff], ?_⟩
  simp only [DiskS.write, Bool.false_eq_true, if_false, splice, List.take_zero, List.nil_append]
  refine ⟨load_bad 2 _ (by decide) (by decide), ?_⟩
  simp; omega

theorem open_nil : DoesR Tryd.prog 8 #[.pointer none] [] (.tuple #[.pointer none, .int .i64 1]) := by
  refine spec_enter Tryd.func8 rfl Tryd.ntmps8 rfl ?_
  intro u R
  refine at_slots (env' := [(0, _)]) [0] rfl (fun _ => rfl) ?_
  refine at_seq ?_
  refine at_region ?_
  refine op_w (p_assign (fun _ => rfl)) rfl rfl ?_
  refine op_w (p_assign (fun _ => rfl)) rfl rfl ?_
  refine ops_nil ?_
  refine nx_slots (env' := [(0, _)]) [0] rfl (fun _ => rfl) ?_
  refine nx_next ?_
  refine at_seq ?_
  refine at_seq ?_
  refine at_region ?_
  refine op_w (p_move (fun _ => rfl)) rfl rfl ?_
  first | refine op_w (p_eql_nil_nil Tryd.underlying24 (fun _ => rfl) (fun _ => rfl)) rfl rfl ?_ | refine op_w (p_eql_ptr_nil Tryd.underlying24 (fun _ => rfl) (fun _ => rfl)) rfl rfl ?_
  refine ops_nil ?_
  refine nx_slots (env' := [(0, _), (8, _)]) [0, 8] rfl (fun _ => rfl) ?_
  refine nx_next ?_
  refine at_if_bool (fun _ => rfl) (fun hc1 => ?_) (fun hc1 => ?_)
  ·
    refine at_seq ?_
    refine at_region ?_
    refine op_w (p_assign (fun _ => rfl)) rfl rfl ?_
    refine op_w (p_assign (fun _ => rfl)) rfl rfl ?_
    refine ops_nil ?_
    refine nx_slots (env' := [(2, _), (3, _)]) [2, 3] rfl (fun _ => rfl) ?_
    refine nx_next ?_
    refine at_ret ?_
    refine nx_thru (by intro h; cases h) ?_
    refine nx_end2 (H' := _) rfl Tryd.results8 (fun _ => rfl) (fun _ => rfl) (by exact ⟨rfl, rfl⟩) ?hp_1
    case hp_1 => repeat (first | exact Sub.refl _ | exact Sub.nil _ | (apply Sub.cons; (focus (repeat (first | exact One.here _ _ | apply One.there)))) | refine Sub.drop _ ?_)
  ·
    cases hc1

end Go.Proofs.YtddblcjcodejaaaDoor
