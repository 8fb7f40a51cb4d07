/- Package snapshot: opened, erase; the states of a store. -/
import Derived.Test.YthbadolcncojbaaGreatDoorEz
import Derived.Test.YthbadolcncojbaaGreatDoorSp1
namespace Go.Proofs.YthbadolcncojbaaGreatDoor
open Go.Proofs.Tryz
open Go Go.RowKit Gw
set_option linter.unusedVariables false
set_option maxRecDepth 100000
attribute [local irreducible] Gw.At Gw.Nx Gw.Ops
abbrev j0 : JrS := ⟨[], zero32, 0, false⟩
theorem JD.nil {j : JrS} {d : DiskS} (h : JD j d) (hr : j.rs = []) : j = j0 := by
  obtain ⟨rs, hd, sz, br⟩ := j
  have h1 := h.br
  have h2 := h.head
  have h3 := h.sz
  simp only at hr h1 h2 h3
  subst hr h1 h2 h3
  rfl
theorem load_zero (t : List UInt8) : loadL (0 :: t) ((0 :: t).length + 1) [] zero32 0 = some ([], zero32, 0) := by
  rw [loadL, List.getElem?_cons_zero]
  simp only
  rw [if_pos (by decide)]
theorem zero_fresh (vi : List UInt8) : (DiskS.zero ⟨false, 0, vi, vi, []⟩ 0) = (0, ⟨false, 0, List.replicate vi.length 0, List.replicate vi.length 0, []⟩) := by
  unfold DiskS.zero
  simp [DiskS.write, DiskS.sync, usedOff, usedLeft, splice]
theorem JD.fresh (n : Nat) : JD j0 ⟨false, 0, List.replicate n 0, List.replicate n 0, []⟩ :=
  ⟨rfl, rfl, rfl, rfl, rfl, rfl, rfl, Nat.zero_le _, by simp [outL], by simp⟩
theorem jr_clear (vi : List UInt8) (dp : Nat) (sd : List Chunk) (pa : Addr) (Tx Tg : TypeId) (zx zg : Nat × Nat) (hR : DiskR ⟨false, 0, 0 :: vi, 0 :: vi, []⟩ dp sd) :
    Does Tryz.prog 10 #[.pointer (some ⟨dp, 0, none⟩)] [sd, [(4, .cells (kTab.map u32v).toArray Tg zg)], [(0, .cells #[.iface 299 (.pointer (some pa))] Tx zx)]] (fun r H' => ∃ jp sj d' sd', r = .tuple #[.pointer (some ⟨jp, 0, none⟩), .int .i64 0] ∧ JD j0 d' ∧ d'.vi.length = (0 :: vi).length ∧ JrR j0 jp dp sj ∧ DiskR d' dp sd' ∧ H' = [sj, sd', [(4, .cells (kTab.map u32v).toArray Tg zg)], [(0, .cells #[.iface 299 (.pointer (some pa))] Tx zx)]]) := by
  by_cases hz : ∀ x ∈ (0 :: vi).drop 0, x = 0
  · have hrep : (0 :: vi) = List.replicate (0 :: vi).length 0 := List.eq_replicate_of_mem (by simpa using hz)
    have hJ : JD j0 ⟨false, 0, 0 :: vi, 0 :: vi, []⟩ := by
      have := JD.fresh (0 :: vi).length
      rw [← hrep] at this; exact this
    refine does_mono (jr_open j0 _ dp sd pa Tx Tg zx zg hJ hR) ?_
    rintro r _ ⟨jp, sj, rfl, h1, rfl⟩
    exact ⟨_, ⟨jp, sj, _, sd, rfl, hJ, rfl, h1, hR, rfl⟩, rfl⟩
  · refine does_mono (open_tail dp _ sd pa Tx Tg zx zg hR rfl (by simp) [] zero32 0 (load_zero vi) hz) ?_
    rintro r _ ⟨v, sr, jp, sd', g1, g2, g3, g4, g5, h⟩
    rw [zero_fresh] at g5 h
    rcases h with ⟨_, rfl, rfl⟩ | ⟨h, _⟩
    · exact ⟨_, ⟨jp, _, _, sd', rfl, JD.fresh _, by simp, ⟨g1, by simp, v, sr, g4, rfl⟩, g5, rfl⟩, by simp⟩
    · exact absurd rfl h
theorem write_fresh (d : DiskS) (h0 : d.off = false) (h1 : d.left = 0) (x : UInt8) : d.write 0 [x] = (0, ⟨false, 0, d.du, splice d.vi 0 [x], d.pend ++ [(0, [x])]⟩) := by
  obtain ⟨off, left, du, vi, pend⟩ := d
  simp only at h0 h1
  subst h0 h1
  simp [DiskS.write, usedOff, usedLeft]
/-- A store's state: the current half, the other one, each with its disk; the generation; the items. -/
structure SnS where
  cur : JrS
  oth : JrS
  cd : DiskS
  od : DiskS
  gen : Nat
  its : List (List UInt8)
/-- What a half stores: a generation (0: nothing) and items. -/
def LstOk (rs : List (List UInt8)) (n : Nat) (its : List (List UInt8)) : Prop :=
  (rs = [] ∧ n = 0 ∧ its = []) ∨ (rs = recsOf n its ∧ 1 ≤ n ∧ n ≤ 1000000000 ∧ ∀ r ∈ its, r.length < 65536)
structure SnOk (s : SnS) : Prop where
  hc : JD s.cur s.cd
  ho : JD s.oth s.od
  rs : s.cur.rs = recsOf s.gen s.its
  sh : ∀ r ∈ s.its, r.length < 65536
  g1 : 1 ≤ s.gen
  g2 : s.gen ≤ 1000000000
  oth : ∃ m its, LstOk s.oth.rs m its ∧ m < s.gen
/-- The memory of a store at sp: its halves' journals at c and o, on the disks at ca and oa. -/
def SnR (s : SnS) (sp c ca o oa : Nat) (ss sc so sca soa : List Chunk) : Prop :=
  JrR s.cur c ca sc ∧ JrR s.oth o oa so ∧ DiskR s.cd ca sca ∧ DiskR s.od oa soa ∧ ∃ v sr, Row 9 v (s.its.map strV) sr ∧ ss = (sp, .cells #[.pointer (some ⟨c, 0, none⟩), .pointer (some ⟨ca, 0, none⟩), .pointer (some ⟨o, 0, none⟩), .pointer (some ⟨oa, 0, none⟩), .int .i64 (s.gen : Int), v, .int .i64 0] 150 (0, 0)) :: sr
theorem list_any (j : JrS) (jp dp n : Nat) (its : List (List UInt8)) (sj : List Chunk) (hJ : JrR j jp dp sj) (h : LstOk j.rs n its) :
    Does Tryz.prog 69 #[.agg #[.pointer (some ⟨jp, 0, none⟩), .pointer (some ⟨dp, 0, none⟩)]] [sj] (fun r H' => ∃ v sv, r = .tuple #[.int .i64 (n : Int), v, .bool true] ∧ Row 9 v (its.map strV) sv ∧ H' = [sj, sv]) := by
  rcases h with ⟨h1, rfl, rfl⟩ | ⟨h1, h2, h3, h4⟩
  · refine does_mono (list_nil j jp dp sj hJ h1) ?_
    rintro r _ ⟨rfl, rfl⟩
    exact ⟨_, ⟨_, [], rfl, row_nil _, rfl⟩, by simp⟩
  · exact list_good j jp dp n its sj hJ h1 h2 h3 h4
theorem DiskR.cell {d : DiskS} {dp : Nat} {sd : List Chunk} (h : DiskR d dp sd) : ∃ cs, (dp, .cells cs 103 (0, 0)) ∈ sd := by
  obtain ⟨_, bd, bv, pv, sp, _, rfl⟩ := h
  exact ⟨_, List.mem_cons_self ..⟩

theorem opened_ok (dp : Nat) (sd : List Chunk) (pa : Addr) (Tx Tg : TypeId) (zx zg : Nat × Nat) (P : Nat → List Chunk → List Chunk → Prop) (hO : Does Tryz.prog 10 #[.pointer (some ⟨dp, 0, none⟩)] [sd, [(4, .cells (kTab.map u32v).toArray Tg zg)], [(0, .cells #[.iface 299 (.pointer (some pa))] Tx zx)]] (fun r H' => ∃ jp sj sd', r = .tuple #[.pointer (some ⟨jp, 0, none⟩), .int .i64 0] ∧ P jp sj sd' ∧ H' = [sj, sd', [(4, .cells (kTab.map u32v).toArray Tg zg)], [(0, .cells #[.iface 299 (.pointer (some pa))] Tx zx)]])) :
    Does Tryz.prog 68 #[.pointer (some ⟨dp, 0, none⟩)] [sd, [(4, .cells (kTab.map u32v).toArray Tg zg)], [(0, .cells #[.iface 299 (.pointer (some pa))] Tx zx)]] (fun r H' => ∃ jp sj sd', r = .tuple #[.agg #[.pointer (some ⟨jp, 0, none⟩), .pointer (some ⟨dp, 0, none⟩)], .int .i64 0] ∧ P jp sj sd' ∧ H' = [sj, sd', [(4, .cells (kTab.map u32v).toArray Tg zg)], [(0, .cells #[.iface 299 (.pointer (some pa))] Tx zx)]]) := by
 refine spec_enter func68 rfl ntmps68 rfl ?_
 intro u R
 refine Zb [0] ?_
 refine Zq <| Zg <| Ze (w_alloc zeroValue144 (cs := #[_, _]) rfl) ?_
 rintro _ _ ⟨ba, rfl, rfl⟩
 refine Za Y <| Z0 <| Zx <| Zq <| Zg <| Zm Y <| Zc [_] Y call10 Y rfl (hO) ?_
 rintro _ _ ⟨_, ⟨jp, sj, sd2, rfl, hP, rfl⟩, rfl⟩
 refine Zm Y <| Zd Y rfl <| Zd Y rfl <| Za Y <| Za Y <| Z0 <| Zx <| Zq <| Zg <| Zm Y <| Zm Y <| Zv (p_build (vs := [(0, _), (1, _)]) (cs := #[_, _]) Y (run_build_struct (pl := #[(0, 1), (1, 1)]) zeroValue144 underlying144 (fun _ => by kernel_rfl) rfl)) ?_
 refine Zm Y <| Ze (w_store_agg sizeOf144 Y Y (by first | (simp [Value.oneCell']; done) | (simp [Value.oneCell', Value.cells]; done)) (by repeat (first | exact Upd.here _ | apply Upd.there)) (by rfl) (by first | rfl | (simp; done)) (by first | decide | exact Nat.le_refl _ | (simp; done) | (simp; omega)) (by exact free_zero _)) ?_
 rintro _ _ ⟨rfl, rfl⟩
 refine Za Y <| Z0 <| Zn [2, 3] ?_
 refine Zx <| at_ret ?_
 refine nx_endct rfl results68 Y (by repeat (first | exact Has.here _ | apply Has.there)) (loadVar_agg isAgg144 sizeOf144 (by first | decide | exact Nat.le_refl _ | (simp; done) | (simp; omega)) (rfl)) Y (by exact ⟨jp, sj, sd2, rfl, hP, rfl⟩)

theorem opened_jd (j : JrS) (d : DiskS) (dp : Nat) (sd : List Chunk) (pa : Addr) (Tx Tg : TypeId) (zx zg : Nat × Nat) (hD : JD j d) (hR : DiskR d dp sd) :
    Does Tryz.prog 68 #[.pointer (some ⟨dp, 0, none⟩)] [sd, [(4, .cells (kTab.map u32v).toArray Tg zg)], [(0, .cells #[.iface 299 (.pointer (some pa))] Tx zx)]] (fun r H' => ∃ jp sj, r = .tuple #[.agg #[.pointer (some ⟨jp, 0, none⟩), .pointer (some ⟨dp, 0, none⟩)], .int .i64 0] ∧ JrR j jp dp sj ∧ H' = [sj, sd, [(4, .cells (kTab.map u32v).toArray Tg zg)], [(0, .cells #[.iface 299 (.pointer (some pa))] Tx zx)]]) := by
  refine does_mono (opened_ok dp sd pa Tx Tg zx zg (fun jp sj sd' => JrR j jp dp sj ∧ sd' = sd) (does_mono (jr_open j d dp sd pa Tx Tg zx zg hD hR) ?_)) ?_
  · rintro r _ ⟨jp, sj, rfl, h1, rfl⟩
    exact ⟨_, ⟨jp, sj, sd, rfl, ⟨h1, rfl⟩, rfl⟩, rfl⟩
  · rintro r _ ⟨jp, sj, _, rfl, ⟨h1, rfl⟩, rfl⟩
    exact ⟨_, ⟨jp, sj, rfl, h1, rfl⟩, rfl⟩
theorem opened_clear (vi : List UInt8) (dp : Nat) (sd : List Chunk) (pa : Addr) (Tx Tg : TypeId) (zx zg : Nat × Nat) (hR : DiskR ⟨false, 0, 0 :: vi, 0 :: vi, []⟩ dp sd) :
    Does Tryz.prog 68 #[.pointer (some ⟨dp, 0, none⟩)] [sd, [(4, .cells (kTab.map u32v).toArray Tg zg)], [(0, .cells #[.iface 299 (.pointer (some pa))] Tx zx)]] (fun r H' => ∃ jp sj d' sd', r = .tuple #[.agg #[.pointer (some ⟨jp, 0, none⟩), .pointer (some ⟨dp, 0, none⟩)], .int .i64 0] ∧ JD j0 d' ∧ d'.vi.length = (0 :: vi).length ∧ JrR j0 jp dp sj ∧ DiskR d' dp sd' ∧ H' = [sj, sd', [(4, .cells (kTab.map u32v).toArray Tg zg)], [(0, .cells #[.iface 299 (.pointer (some pa))] Tx zx)]]) := by
  refine does_mono (opened_ok dp sd pa Tx Tg zx zg (fun jp sj sd' => ∃ d', JD j0 d' ∧ d'.vi.length = (0 :: vi).length ∧ JrR j0 jp dp sj ∧ DiskR d' dp sd') (does_mono (jr_clear vi dp sd pa Tx Tg zx zg hR) ?_)) ?_
  · rintro r _ ⟨jp, sj, d', sd', rfl, h1, h2, h3, h4, rfl⟩
    exact ⟨_, ⟨jp, sj, sd', rfl, ⟨d', h1, h2, h3, h4⟩, rfl⟩, rfl⟩
  · rintro r _ ⟨jp, sj, sd', rfl, ⟨d', h1, h2, h3, h4⟩, rfl⟩
    exact ⟨_, ⟨jp, sj, d', sd', rfl, h1, h2, h3, h4, rfl⟩, rfl⟩

theorem erase_spec (j : JrS) (d : DiskS) (jp dp : Nat) (sj sd : List Chunk) (pa : Addr) (Tx Tg : TypeId) (zx zg : Nat × Nat) (hD : JD j d) (hJ : JrR j jp dp sj) (hR : DiskR d dp sd) :
    Does Tryz.prog 85 #[.agg #[.pointer (some ⟨jp, 0, none⟩), .pointer (some ⟨dp, 0, none⟩)]] [sj, sd, [(4, .cells (kTab.map u32v).toArray Tg zg)], [(0, .cells #[.iface 299 (.pointer (some pa))] Tx zx)]] (fun r H' => ∃ np sn d' sd', r = .tuple #[.agg #[.pointer (some ⟨np, 0, none⟩), .pointer (some ⟨dp, 0, none⟩)], .int .i64 0] ∧ JD j0 d' ∧ d'.vi.length = d.vi.length ∧ JrR j0 np dp sn ∧ DiskR d' dp sd' ∧ H' = [sn, sd', [(4, .cells (kTab.map u32v).toArray Tg zg)], [(0, .cells #[.iface 299 (.pointer (some pa))] Tx zx)]]) := by
 have hvi := hR.1.2.1
 refine spec_enter func85 rfl ntmps85 rfl ?_
 intro u R
 refine Zb [0] ?_
 refine Zq <| Zg <| Ze (w_box Y (cs := #[_, _]) rfl) ?_
 rintro _ _ ⟨hb, rfl, rfl⟩
 refine Ze (w_alloc zeroValue144 (cs := #[_, _]) rfl) ?_
 rintro _ _ ⟨ha, rfl, rfl⟩
 refine Za Y <| Z0 <| Zx <| Zq <| Zq <| Zg <| Zh 0 underlying144 rfl rfl sizeOf30 Y <| Zl isAgg30 Y ?_
 refine Zc [_] Y call39 Y rfl (jr_records j jp dp sj hJ) ?_
 rintro _ _ ⟨_, ⟨sr, hr, rfl⟩, rfl⟩
 obtain ⟨gr, cr, rfl⟩ := hr.form
 refine Zv (p_len_slice underlying43 Y) ?_
 first | refine op_v (p_gtr_nat (n := 0) Y Y) ?_ | refine op_v (p_gtr Y Y) ?_
 refine Z0 <| Zx ?_
 first | refine at_if Y (fun hlen => ?_) (fun hlen => ?_) | refine at_if_bool Y (fun hlen => ?_) (fun hlen => ?_)
 ·
  refine Zq <| Zq <| Zg <| Zh 1 underlying144 rfl rfl sizeOf26 Y <| Zl isAgg26 Y ?_
  refine Zc [_, _, _] Y call21 Y rfl (disk_write d dp sd hR 0 [0] (by simp; omega) (by omega) (by rw [hD.pend]; simp)) ?_
  rintro _ _ ⟨_, ⟨sd1, rfl, rfl, hR1⟩, rfl⟩
  rw [write_fresh d hD.off hD.left] at hR1 ⊢
  refine Za Y <| Z0 <| Zx <| Zq <| Zg <| Zm Y ?_
  first | refine op_v (p_neq_nat (n := 0) Y Y) ?_ | refine op_v (p_neq Y Y) ?_
  refine Z0 <| Zn [1, 2, 4, 15] ?_
  refine Zx ?_
  first | refine at_if Y (fun hw1 => ?_) (fun hw1 => ?_) | refine at_if_bool Y (fun hw1 => ?_) (fun hw1 => ?_)
  ·
   exact absurd rfl hw1
  ·
   refine at_skip <| Zx <| Zq <| Zg <| Zh 1 underlying144 rfl rfl sizeOf26 Y <| Zl isAgg26 Y ?_
   refine Zc [_] Y call48 Y rfl (disk_sync _ dp sd1 hR1) ?_
   rintro _ _ ⟨_, ⟨sd2, rfl, rfl, hR2⟩, rfl⟩
   obtain ⟨x, t, hxt⟩ : ∃ x t, d.vi = x :: t := by
     cases h : d.vi with
     | nil => rw [h] at hvi; simp at hvi
     | cons x t => exact ⟨x, t, rfl⟩
   have hsy : (DiskS.sync ⟨false, 0, d.du, splice d.vi 0 [0], d.pend ++ [(0, [0])]⟩) = (0, ⟨false, 0, 0 :: t, 0 :: t, []⟩) := by
     rw [hxt]; rfl
   simp only at hR2 ⊢
   rw [hsy] at hR2 ⊢
   refine Za Y <| Z0 <| Zx <| Zq <| Zg <| Zm Y ?_
   first | refine op_v (p_neq_nat (n := 0) Y Y) ?_ | refine op_v (p_neq Y Y) ?_
   refine Z0 <| Zx ?_
   first | refine at_if Y (fun hw2 => ?_) (fun hw2 => ?_) | refine at_if_bool Y (fun hw2 => ?_) (fun hw2 => ?_)
   ·
    exact absurd rfl hw2
   ·
    refine at_skip <| Zx <| Zq <| Zg <| Zh 1 underlying144 rfl rfl sizeOf26 Y <| Zl isAgg26 Y ?_
    refine Zc [_] Y call68 Y rfl (opened_clear t dp sd2 pa Tx Tg zx zg hR2) ?_
    rintro _ _ ⟨_, ⟨np, sn, d2, sd3, rfl, g1, g2, g3, g4, rfl⟩, rfl⟩
    have g5 : d2.vi.length = d.vi.length := by rw [g2, hxt]; simp
    refine Zd Y rfl <| Zd Y rfl <| Ze (w_store_agg sizeOf144 Y Y (by first | (simp [Value.oneCell']; done) | (simp [Value.oneCell', Value.cells]; done)) (by repeat (first | exact Upd.here _ | apply Upd.there)) (by rfl) (by first | rfl | (simp; done)) (by first | decide | exact Nat.le_refl _ | (simp; done) | (simp; omega)) (by exact free_zero _)) ?_
    rintro _ _ ⟨rfl, rfl⟩
    refine Za Y <| Z0 <| Zn [2, 3] ?_
    refine Zx <| at_ret ?_
    refine nx_endct rfl results85 Y (by repeat (first | exact Has.here _ | apply Has.there)) (loadVar_agg isAgg144 sizeOf144 (by first | decide | exact Nat.le_refl _ | (simp; done) | (simp; omega)) (rfl)) Y (by exact ⟨_, _, _, _, rfl, g1, g5, g3, g4, rfl⟩)
 ·
  have hnil : j.rs = [] := List.eq_nil_of_length_eq_zero (by rw [List.length_map] at hlen; omega)
  have hjj := hD.nil hnil
  subst hjj
  refine at_skip <| Zx <| Zq <| Zg <| Zh 1 underlying144 rfl rfl sizeOf26 Y <| Zl isAgg26 Y ?_
  refine Zc [_] Y call68 Y rfl (opened_jd j0 d dp sd pa Tx Tg zx zg hD hR) ?_
  rintro _ _ ⟨_, ⟨np, sn, rfl, g3, rfl⟩, rfl⟩
  have g1 := hD
  have g4 := hR
  have g5 : d.vi.length = d.vi.length := rfl
  refine Zd Y rfl <| Zd Y rfl <| Ze (w_store_agg sizeOf144 Y Y (by first | (simp [Value.oneCell']; done) | (simp [Value.oneCell', Value.cells]; done)) (by repeat (first | exact Upd.here _ | apply Upd.there)) (by rfl) (by first | rfl | (simp; done)) (by first | decide | exact Nat.le_refl _ | (simp; done) | (simp; omega)) (by exact free_zero _)) ?_
  rintro _ _ ⟨rfl, rfl⟩
  refine Za Y <| Z0 <| Zn [2, 3] ?_
  refine Zx <| at_ret ?_
  refine nx_endct rfl results85 Y (by repeat (first | exact Has.here _ | apply Has.there)) (loadVar_agg isAgg144 sizeOf144 (by first | decide | exact Nat.le_refl _ | (simp; done) | (simp; omega)) (rfl)) Y (by exact ⟨_, _, _, _, rfl, g1, g5, g3, g4, rfl⟩)

end Go.Proofs.YthbadolcncojbaaGreatDoor
