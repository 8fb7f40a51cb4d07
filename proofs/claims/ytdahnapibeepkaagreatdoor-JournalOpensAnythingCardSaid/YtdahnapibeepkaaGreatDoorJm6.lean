/- Append where it refuses or has nothing to do; Records and Room at nil. -/
import Derived.Test.YtdahnapibeepkaaGreatDoorJm4
import Derived.Test.YtdahnapibeepkaaGreatDoorEx11
namespace Go.Proofs.YtdahnapibeepkaaGreatDoor
open Go Go.RowKit Gw
set_option linter.unusedVariables false
set_option maxRecDepth 100000
attribute [local irreducible] Gw.At Gw.Nx Gw.Ops
theorem records_nil : DoesR Tryz.prog 17 #[.pointer none] [] (.slice none 0 0) := by
 refine spec_enter Tryz.func17 rfl Tryz.ntmps17 rfl ?_
 intro u R
 refine at_slots (env' := [(0, _)]) [0] rfl (fun _=>rfl) ?_
 refine at_seq ?_
 refine at_region ?_
 refine op_v (p_assign (fun _=>rfl)) ?_
 refine ops_nil ?_
 refine nx_slots (env' := [(0, _)]) [0] rfl (fun _=>rfl) ?_
 refine nx_next ?_
 refine at_seq ?_
 refine at_seq ?_
 refine at_region ?_
 refine op_v (p_move (fun _=>rfl)) ?_
 first | refine op_v (p_eql_nil_nil Tryz.underlying28 (fun _=>rfl) (fun _=>rfl)) ?_ | refine op_v (p_eql_ptr_nil Tryz.underlying28 (fun _=>rfl) (fun _=>rfl)) ?_
 refine ops_nil ?_
 refine nx_slots (env' := [(0, _), (4, _)]) [0, 4] rfl (fun _=>rfl) ?_
 refine nx_next ?_
 refine at_if_bool (fun _=>rfl) (fun hc1 => ?_) (fun hc1 => ?_)
 ·
  refine at_seq ?_
  refine at_region ?_
  refine op_v (p_assign (fun _=>rfl)) ?_
  refine ops_nil ?_
  refine nx_slots (env' := [(2, _)]) [2] rfl (fun _=>rfl) ?_
  refine nx_next ?_
  refine at_ret ?_
  refine nx_thru (by intro h; cases h) ?_
  refine nx_end1 (H' := _) rfl Tryz.results17 (fun _=>rfl) (by exact ⟨rfl, rfl⟩) ?hp_1
  case hp_1 => repeat (first | exact Sub.refl _ | exact Sub.nil _ | (apply Sub.cons; (focus (repeat (first | exact One.here _ _ | apply One.there)))) | refine Sub.drop _ ?_)
 ·
  cases hc1

theorem room_nil : DoesR Tryz.prog 18 #[.pointer none] [] (.int .i64 0) := by
 refine spec_enter Tryz.func18 rfl Tryz.ntmps18 rfl ?_
 intro u R
 refine at_slots (env' := [(0, _)]) [0] rfl (fun _=>rfl) ?_
 refine at_seq ?_
 refine at_region ?_
 refine op_v (p_assign (fun _=>rfl)) ?_
 refine ops_nil ?_
 refine nx_slots (env' := [(0, _)]) [0] rfl (fun _=>rfl) ?_
 refine nx_next ?_
 refine at_seq ?_
 refine at_seq ?_
 refine at_region ?_
 refine op_v (p_move (fun _=>rfl)) ?_
 first | refine op_v (p_eql_nil_nil Tryz.underlying28 (fun _=>rfl) (fun _=>rfl)) ?_ | refine op_v (p_eql_ptr_nil Tryz.underlying28 (fun _=>rfl) (fun _=>rfl)) ?_
 refine ops_nil ?_
 refine nx_slots (env' := [(0, _), (4, _)]) [0, 4] rfl (fun _=>rfl) ?_
 refine nx_next ?_
 refine at_if_bool (fun _=>rfl) (fun hc1 => ?_) (fun hc1 => ?_)
 ·
  refine at_seq ?_
  refine at_region ?_
  refine op_v (p_assign (fun _=>rfl)) ?_
  refine ops_nil ?_
  refine nx_slots (env' := [(2, _)]) [2] rfl (fun _=>rfl) ?_
  refine nx_next ?_
  refine at_ret ?_
  refine nx_thru (by intro h; cases h) ?_
  refine nx_end1 (H' := _) rfl Tryz.results18 (fun _=>rfl) (by exact ⟨rfl, rfl⟩) ?hp_1
  case hp_1 => repeat (first | exact Sub.refl _ | exact Sub.nil _ | (apply Sub.cons; (focus (repeat (first | exact One.here _ _ | apply One.there)))) | refine Sub.drop _ ?_)
 ·
  cases hc1

theorem jr_long (j : JrS) (jp dp : Nat) (sj sl : List Chunk) (v : Value) (ls : List (List UInt8)) (hJ : JrR j jp dp sj) (hbr : j.br = false) (hl : Row 9 v (ls.map strV) sl) (hls : ls.length ≤ 1000000) (hany : ls.any isLong = true) :
    DoesR Tryz.prog 8 #[.pointer (some ⟨jp, 0, none⟩), v] [sj, sl] (.int .i64 230) := by
  obtain ⟨rs, h, sz, br⟩ := j
  simp only at hbr
  subst hbr
  obtain ⟨hh, hn, v0, sr, hrow, rfl⟩ := hJ
  have hne : 0 < (ls.map strV).length := by
    rw [List.length_map]
    cases ls with
    | nil => simp at hany
    | cons x t => simp
  obtain ⟨g, cap, cur, z, rfl, rfl, hin⟩ := row_in hl hne
  rw [List.length_map]
  refine does_perm (does_frame (H := [[(jp, .cells #[v0, .string (str h), .int .i64 (sz : Int), .pointer (some ⟨dp, 0, none⟩), .bool false] 85 (0, 0))], [(g, .cells cur 9 z)], sr]) (append_long jp g cap v0 (.string (str h)) (.int .i64 (sz : Int)) (.pointer (some ⟨dp, 0, none⟩)) 85 9 z cur ls hin hls hany) [sr] rfl) ?_ ?_
  · simp only [List.flatten_cons, List.flatten_nil, List.append_nil, List.singleton_append, List.cons_append, List.nil_append]; first | exact List.Perm.cons _ List.perm_append_comm | exact List.Perm.cons _ (List.perm_append_singleton _ _).symm | exact List.Perm.cons _ (List.perm_append_singleton _ _)
  · rintro r _ ⟨H2, ⟨rfl, rfl⟩, rfl⟩
    refine ⟨_, ⟨rfl, rfl⟩, ?_⟩
    simp only [List.flatten_cons, List.flatten_nil, List.flatten_append, List.append_nil, List.singleton_append, List.cons_append, List.nil_append]; first | exact List.Perm.cons _ List.perm_append_comm | exact List.Perm.cons _ (List.perm_append_singleton _ _).symm | exact List.Perm.cons _ (List.perm_append_singleton _ _)
theorem jr_none (j : JrS) (d : DiskS) (jp dp : Nat) (sj sd : List Chunk) (hJ : JrR j jp dp sj) (hR : DiskR d dp sd) (hbr : j.br = false) (hz : j.sz ≤ d.vi.length) :
    DoesR Tryz.prog 8 #[.pointer (some ⟨jp, 0, none⟩), .slice none 0 0] [sj, sd] (.int .i64 0) := by
  obtain ⟨rs, h, sz, br⟩ := j
  simp only at hbr hz
  subst hbr
  obtain ⟨hh, hn, v0, sr, hrow, rfl⟩ := hJ
  refine does_mono (does_flat (by simp) (append_none jp dp sz v0 rs sr sd h d 85 hrow hz hn hR)) ?_
  rintro r _ ⟨rfl, rfl⟩
  exact ⟨_, ⟨rfl, rfl⟩, by simp⟩
theorem jr_broken (j : JrS) (jp dp : Nat) (sj : List Chunk) (v : Value) (hJ : JrR j jp dp sj) (hbr : j.br = true) :
    DoesR Tryz.prog 8 #[.pointer (some ⟨jp, 0, none⟩), v] [sj] (.int .i64 230) := by
  obtain ⟨rs, h, sz, br⟩ := j
  simp only at hbr
  subst hbr
  obtain ⟨hh, hn, v0, sr, hrow, rfl⟩ := hJ
  refine does_mono (does_frame (append_broken jp v v0 (.string (str h)) (.int .i64 (sz : Int)) (.pointer (some ⟨dp, 0, none⟩)) 85) [sr] (by simp)) ?_
  rintro r _ ⟨H2, ⟨rfl, rfl⟩, rfl⟩
  exact ⟨_, ⟨rfl, rfl⟩, by simp⟩
theorem jr_full (j : JrS) (d : DiskS) (jp dp : Nat) (sj sl sd : List Chunk) (v : Value) (ls : List (List UInt8)) (Tg : TypeId) (zg : Nat × Nat) (hJ : JrR j jp dp sj) (hR : DiskR d dp sd) (hl : Row 9 v (ls.map strV) sl) (hbr : j.br = false) (hz : j.sz ≤ d.vi.length) (hk : d.pend.length ≤ 999990) (hls : ls.length ≤ 1000000) (hany : ls.any isLong = false) (hf : d.vi.length < j.sz + (outL j.h ls).length) :
    Does Tryz.prog 8 #[.pointer (some ⟨jp, 0, none⟩), v] [sj, sl, sd, [(4, .cells (kTab.map u32v).toArray Tg zg)]] (fun r H' => ∃ sj' sd', r = .int .i64 231 ∧ JrR j jp dp sj' ∧ DiskR d dp sd' ∧ H' = [sj', sl, sd', [(4, .cells (kTab.map u32v).toArray Tg zg)]]) := by
  refine does_mono (jr_append j d jp dp sj sl sd v ls Tg zg hJ hR hl hbr hz hk hls hany) ?_
  rintro r _ ⟨v', sr', sd', rfl, h1, h2, rfl⟩
  have e : j.append d ls = (231, j, d) := by
    unfold JrS.append
    rw [if_neg (by rw [hbr, hany]; simp), if_pos hf]
  rw [e] at h1 h2 ⊢
  exact ⟨_, ⟨_, sd', rfl, ⟨hJ.1, hJ.2.1, v', sr', h1, rfl⟩, h2, rfl⟩, by simp⟩
theorem jr_off (j : JrS) (d : DiskS) (jp dp : Nat) (sj sl sd : List Chunk) (v : Value) (ls : List (List UInt8)) (Tg : TypeId) (zg : Nat × Nat) (hJ : JrR j jp dp sj) (hR : DiskR d dp sd) (hl : Row 9 v (ls.map strV) sl) (hbr : j.br = false) (hz : j.sz ≤ d.vi.length) (hk : d.pend.length ≤ 999990) (hls : ls.length ≤ 1000000) (hany : ls.any isLong = false) (hf : ¬ d.vi.length < j.sz + (outL j.h ls).length) (ho : d.off = true) (hne : outL j.h ls ≠ []) :
    Does Tryz.prog 8 #[.pointer (some ⟨jp, 0, none⟩), v] [sj, sl, sd, [(4, .cells (kTab.map u32v).toArray Tg zg)]] (fun r H' => ∃ sj' sd', r = .int .i64 221 ∧ JrR { j with br := true } jp dp sj' ∧ DiskR d dp sd' ∧ H' = [sj', sl, sd', [(4, .cells (kTab.map u32v).toArray Tg zg)]]) := by
  refine does_mono (jr_append j d jp dp sj sl sd v ls Tg zg hJ hR hl hbr hz hk hls hany) ?_
  rintro r _ ⟨v', sr', sd', rfl, h1, h2, rfl⟩
  have ea : d.app j.sz (outL j.h ls) = (221, d) := by
    obtain ⟨off, left, du, vi, pend⟩ := d
    simp only at ho
    subst ho
    simp [DiskS.app, DiskS.write]
  have e : j.append d ls = (221, { j with br := true }, d) := by
    unfold JrS.append
    rw [if_neg (by rw [hbr, hany]; simp), if_neg hf, if_neg hne, ea, if_pos (by show (221 : Int) ≠ 0; decide)]
  rw [e] at h1 h2 ⊢
  exact ⟨_, ⟨_, sd', rfl, ⟨hJ.1, hJ.2.1, v', sr', h1, rfl⟩, h2, rfl⟩, by simp⟩
theorem few_100 {ls : List (List UInt8)} : ∀ r ∈ fewL ls, r.length ≤ 100 := by
  intro r hr
  unfold fewL at hr
  obtain ⟨x, _, rfl⟩ := List.mem_map.1 hr
  rw [List.length_take]; omega
theorem outX_len (h : List UInt8) : (outL h [[120]]).length = 35 := by
  have a := recS_one h [120] (by decide)
  simp only [outL, List.length_append, a, List.length_cons, List.length_nil]
theorem outT_snoc (h : List UInt8) (ls : List (List UInt8)) (i : Nat) (x : List UInt8) (hx : ls[i]? = some x) (hl : x.length ≤ 65536) : (outL h (ls.take (i + 1))).length = (outL h (ls.take i)).length + 33 + (encS x).length := by
  rw [List.take_add_one, hx, Option.toList_some, outL_append, List.length_append]
  have := recS_len (headL h (ls.take i)) x hl
  simp only [outL, List.append_nil, this]; omega

end Go.Proofs.YtdahnapibeepkaaGreatDoor
