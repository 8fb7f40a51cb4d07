/- journal.Open and the Open of the reference over plain states. The world of chapter 23: open, begin. -/
import Derived.Test.YthbadolcncojbaaGreatDoorEz
import Derived.Test.YthbadolcncojbaaGreatDoorRj2
import Derived.Test.YthbadolcncojbaaGreatDoorOp4
import Derived.Test.YthbadolcncojbaaGreatDoorJm6

namespace Go.Proofs.YthbadolcncojbaaGreatDoor
open Go.Proofs.Tryz
open Go Go.RowKit Gw
set_option linter.unusedVariables false
set_option maxRecDepth 100000
attribute [local irreducible] Gw.At Gw.Nx Gw.Ops
theorem open_off (dp : Nat) (d : DiskS) (sd : List Chunk) (hR : DiskR d dp sd) (hoff : d.off = true) : DoesR Tryz.prog 10 #[.pointer (some ⟨dp, 0, none⟩)] [sd] (.tuple #[.pointer none, .int .i64 221]) := by
 refine spec_enter func10 rfl ntmps10 rfl ?_
 intro u R
 refine Zb [0] ?_
 refine Zq <| Zg <| Za Y <| Za Y <| Z0 <| Zx <| Zq <| Zq <| Zg <| Zm Y ?_
 first | refine op_v (p_eql_nil_nil underlying26 Y Y) ?_ | refine op_v (p_eql_ptr_nil underlying26 Y Y) ?_
 refine Z0 <| Zx ?_
 refine at_if_bool Y (fun hc1 => ?_) (fun hc1 => ?_)
 ·
  cases hc1
 ·
  refine at_skip <| Zx <| Zq <| Zg <| Zm Y <| Zm Y <| Zr [_] Y call43 Y rfl (disk_size d dp sd hR) ?_
  rintro _ _ ⟨rfl, rfl⟩
  refine Zr [_, _, _] Y call16 Y rfl ((by have h := disk_read d dp sd hR 0 d.vi.length (by omega) (by have := hR.1.2.1; omega); rw [hoff] at h; simp only [if_true] at h; exact h : DoesR Tryz.prog 16 #[.pointer (some ⟨dp, 0, none⟩), .int .i64 ((0 : Nat) : Int), .int .i64 (d.vi.length : Int)] [sd] (.tuple #[.string (str []), .int .i64 221]))) ?_
  rintro _ _ ⟨rfl, rfl⟩
  refine Zm Y <| Zd Y rfl <| Zd Y rfl <| Za Y <| Za Y <| Z0 <| Zn [0, 4, 5] ?_
  refine Zx <| Zq <| Zq <| Zg <| Zm Y ?_
  first | refine op_v (p_neq_nat (n := 0) Y Y) ?_ | refine op_v (p_neq Y Y) ?_
  refine Z0 <| Zx ?_
  first | refine at_if Y (fun hc2 => ?_) (fun hc2 => ?_) | refine at_if_bool Y (fun hc2 => ?_) (fun hc2 => ?_)
  ·
   refine Zq <| Zg <| Zm Y <| Za Y <| Za Y <| Z0 <| Zx <| at_ret <| Zt ?_
   refine nx_end2 rfl results10 Y Y (by exact ⟨rfl, rfl⟩)
  ·
   exact absurd (by decide) hc2

theorem ropen_off (rp : Nat) (d : DiskS) (sd : List Chunk) (hR : RdR d rp sd) (hoff : d.off = true) (hk : d.pend.length ≤ 999990) : DoesR Tryz.prog 71 #[.pointer (some ⟨rp, 0, none⟩)] [sd] (.tuple #[.pointer none, .int .i64 221]) := by
 obtain ⟨hok, hco, v0, pv0, sv0, sp0, hr0, hp0, hs0⟩ := id hR
 obtain ⟨b0, c0, hv0⟩ := hr0.form
 rw [List.length_map] at hv0
 subst hv0
 refine spec_enter func71 rfl ntmps71 rfl ?_
 intro u R
 refine Zb [0] ?_
 refine Zq <| Zg <| Za Y <| Za Y <| Z0 <| Zx <| Zq <| Zg <| Zm Y <| Zp Y rfl <| Zh 0 underlying136 rfl rfl sizeOf36 Y <| op_rm (cs := [(rp, .cells #[.slice b0 d.du.length c0, pv0, .bool d.off, .int .i64 (d.left : Int)] 136 (0, 0))]) (by simp [hs0]) (p_load isAgg36 Y rfl) rfl rfl ?_
 refine Zv (p_len_slice underlying36 Y) <| Za Y <| Z0 <| Zx <| Zq ?_
 rw [hok.1]
 refine Zg <| Zm Y <| Zm Y <| Zr [_, _, _] Y call121 Y rfl ((by have h := rd_read d rp sd hR 0 d.vi.length (by omega) (by have := hok.2.1; omega) (by omega); rw [hoff] at h; simp only [if_true] at h; exact h : DoesR Tryz.prog 121 #[.pointer (some ⟨rp, 0, none⟩), .int .i64 ((0 : Nat) : Int), .int .i64 (d.vi.length : Int)] [sd] (.tuple #[.string (str []), .int .i64 221]))) ?_
 rintro _ _ ⟨rfl, rfl⟩
 refine Zm Y <| Zd Y rfl <| Zd Y rfl <| Za Y <| Za Y <| Z0 <| Zn [0, 4, 5, 6] ?_
 refine Zx <| Zq <| Zq <| Zg <| Zm Y ?_
 first | refine op_v (p_neq_nat (n := 0) Y Y) ?_ | refine op_v (p_neq Y Y) ?_
 refine Z0 <| Zx ?_
 first | refine at_if Y (fun hc1 => ?_) (fun hc1 => ?_) | refine at_if_bool Y (fun hc1 => ?_) (fun hc1 => ?_)
 ·
  refine Zq <| Zg <| Zm Y <| Za Y <| Za Y <| Z0 <| Zx <| at_ret <| Zt ?_
  refine nx_end2 rfl results71 Y Y (by exact ⟨rfl, rfl⟩)
 ·
  exact absurd (by decide) hc1

/-- What Open makes of a disk: the code, the journal, the disk. -/
def DiskS.openJ (d : DiskS) : Int × Option JrS × DiskS :=
  if d.off then (221, none, d) else
  match loadL d.vi (d.vi.length + 1) [] zero32 0 with
  | none => (232, none, d)
  | some (rs, h, sz) => if d.vi.drop sz = List.replicate (d.vi.length - sz) 0 then (0, some ⟨rs, h, sz, false⟩, d) else
    if (d.zero sz).1 = 0 then (0, some ⟨rs, h, sz, false⟩, (d.zero sz).2) else ((d.zero sz).1, none, (d.zero sz).2)
def JoP (jo : Option JrS) (dp : Nat) (v : Value) (s : List Chunk) : Prop :=
  match jo with
  | none => v = .pointer none ∧ s = []
  | some j => ∃ jp, v = .pointer (some ⟨jp, 0, none⟩) ∧ JrR j jp dp s
def KoP (jo : Option JrS) (rp : Nat) (v : Value) (s : List Chunk) : Prop :=
  match jo with
  | none => v = .pointer none ∧ s = []
  | some j => ∃ kp, v = .pointer (some ⟨kp, 0, none⟩) ∧ KrR j kp rp s
theorem zeros_iff (l : List UInt8) (n : Nat) (h : l.length = n) : (∀ x ∈ l, x = 0) ↔ l = List.replicate n 0 := by
  rw [List.eq_replicate_iff]; exact ⟨fun h2 => ⟨h, h2⟩, fun h2 => h2.2⟩
theorem popen_any (d : DiskS) (dp : Nat) (sd : List Chunk) (pa : Addr) (Tx Tg : TypeId) (zx zg : Nat × Nat) (hR : DiskR d dp sd) (hk : d.pend.length ≤ 999990) :
    Does Tryz.prog 10 #[.pointer (some ⟨dp, 0, none⟩)] [sd, [(4, .cells (kTab.map u32v).toArray Tg zg)], [(0, .cells #[.iface 299 (.pointer (some pa))] Tx zx)]] (fun r H' => ∃ v sj sd', JoP d.openJ.2.1 dp v sj ∧ DiskR d.openJ.2.2 dp sd' ∧ r = .tuple #[v, .int .i64 d.openJ.1] ∧ H' = [sj, sd', [(4, .cells (kTab.map u32v).toArray Tg zg)], [(0, .cells #[.iface 299 (.pointer (some pa))] Tx zx)]]) := by
  have hvi : d.vi.length ≤ 4194304 := hR.1.2.2.1
  cases hoff : d.off with
  | true =>
    have e : d.openJ = (221, none, d) := by unfold DiskS.openJ; rw [if_pos hoff]
    rw [e]
    refine does_mono (does_frame (open_off dp d sd hR hoff) [[(4, .cells (kTab.map u32v).toArray Tg zg)], [(0, .cells #[.iface 299 (.pointer (some pa))] Tx zx)]] (by simp)) ?_
    rintro r _ ⟨H2, ⟨rfl, rfl⟩, rfl⟩
    exact ⟨_, ⟨_, [], sd, ⟨rfl, rfl⟩, hR, rfl, rfl⟩, by simp⟩
  | false =>
    cases hl : loadL d.vi (d.vi.length + 1) [] zero32 0 with
    | none =>
      have e : d.openJ = (232, none, d) := by unfold DiskS.openJ; rw [if_neg (by rw [hoff]; simp), hl]
      rw [e]
      refine does_mono (open_damaged dp d sd pa Tx Tg zx zg hR hoff hl) ?_
      rintro r _ ⟨rfl, rfl⟩
      exact ⟨_, ⟨_, [], sd, ⟨rfl, rfl⟩, hR, rfl, rfl⟩, by simp⟩
    | some p =>
      obtain ⟨rs, h, sz⟩ := p
      by_cases hz : ∀ x ∈ d.vi.drop sz, x = 0
      · have e : d.openJ = (0, some ⟨rs, h, sz, false⟩, d) := by
          unfold DiskS.openJ; rw [if_neg (by rw [hoff]; simp), hl]; simp only
          rw [if_pos ((zeros_iff _ _ (by rw [List.length_drop])).1 hz)]
        rw [e]
        refine does_mono (open_clean dp d sd pa Tx Tg zx zg hR hoff rs h sz hl hz) ?_
        rintro r _ ⟨v, sr, jp, g1, g2, g3, g4, rfl, rfl⟩
        exact ⟨_, ⟨_, _, sd, ⟨jp, rfl, g1, by simp only; omega, v, sr, g4, rfl⟩, hR, rfl, rfl⟩, by simp⟩
      · have hz2 : ¬ d.vi.drop sz = List.replicate (d.vi.length - sz) 0 := fun h9 => hz ((zeros_iff _ _ (by rw [List.length_drop])).2 h9)
        refine does_mono (open_tail dp d sd pa Tx Tg zx zg hR hoff hk rs h sz hl hz) ?_
        rintro r _ ⟨v, sr, jp, sd', g1, g2, g3, g4, hR', ⟨h0, rfl, rfl⟩ | ⟨h0, rfl, rfl⟩⟩
        · have e : d.openJ = (0, some ⟨rs, h, sz, false⟩, (d.zero sz).2) := by
            unfold DiskS.openJ; rw [if_neg (by rw [hoff]; simp), hl]; simp only
            rw [if_neg hz2, if_pos h0]
          rw [e]
          exact ⟨_, ⟨_, _, sd', ⟨jp, rfl, g1, by simp only; omega, v, sr, g4, rfl⟩, hR', rfl, rfl⟩, by simp⟩
        · have e : d.openJ = ((d.zero sz).1, none, (d.zero sz).2) := by
            unfold DiskS.openJ; rw [if_neg (by rw [hoff]; simp), hl]; simp only
            rw [if_neg hz2, if_neg h0]
          rw [e]
          exact ⟨_, ⟨_, [], sd', ⟨rfl, rfl⟩, hR', rfl, rfl⟩, by simp⟩
theorem kopen_any (d : DiskS) (rp : Nat) (sd : List Chunk) (hR : RdR d rp sd) (hk : d.pend.length ≤ 999990) :
    Does Tryz.prog 71 #[.pointer (some ⟨rp, 0, none⟩)] [sd] (fun r H' => ∃ v sk sd', KoP d.openJ.2.1 rp v sk ∧ RdR d.openJ.2.2 rp sd' ∧ r = .tuple #[v, .int .i64 d.openJ.1] ∧ H' = [sk, sd']) := by
  have hvi : d.vi.length ≤ 4194304 := hR.1.2.2.1
  cases hoff : d.off with
  | true =>
    have e : d.openJ = (221, none, d) := by unfold DiskS.openJ; rw [if_pos hoff]
    rw [e]
    refine does_mono (ropen_off rp d sd hR hoff hk) ?_
    rintro r _ ⟨rfl, rfl⟩
    exact ⟨_, ⟨_, [], sd, ⟨rfl, rfl⟩, hR, rfl, rfl⟩, by simp⟩
  | false =>
    refine does_mono (ropen_on rp d sd hR hoff hk) ?_
    rintro r _ (⟨hl, rfl, rfl⟩ | ⟨rs, h, sz, v, sr, kp, hl, hh, g2, g3, g5, g4, ⟨hz, rfl, rfl⟩ | ⟨hz, sd', hR', ⟨h0, rfl, rfl⟩ | ⟨h0, rfl, rfl⟩⟩⟩)
    · have e : d.openJ = (232, none, d) := by unfold DiskS.openJ; rw [if_neg (by rw [hoff]; simp), hl]
      rw [e]
      exact ⟨_, ⟨_, [], sd, ⟨rfl, rfl⟩, hR, rfl, rfl⟩, by simp⟩
    · have e : d.openJ = (0, some ⟨rs, h, sz, false⟩, d) := by
        unfold DiskS.openJ; rw [if_neg (by rw [hoff]; simp), hl]; simp only
        rw [if_pos hz]
      rw [e]
      exact ⟨_, ⟨_, _, sd, ⟨kp, rfl, hh, by simp only; omega, g5, v, sr, g4, rfl⟩, hR, rfl, rfl⟩, by simp⟩
    · have e : d.openJ = (0, some ⟨rs, h, sz, false⟩, (d.zero sz).2) := by
        unfold DiskS.openJ; rw [if_neg (by rw [hoff]; simp), hl]; simp only
        rw [if_neg hz, if_pos h0]
      rw [e]
      exact ⟨_, ⟨_, _, sd', ⟨kp, rfl, hh, by simp only; omega, g5, v, sr, g4, rfl⟩, hR', rfl, rfl⟩, by simp⟩
    · have e : d.openJ = ((d.zero sz).1, none, (d.zero sz).2) := by
        unfold DiskS.openJ; rw [if_neg (by rw [hoff]; simp), hl]; simp only
        rw [if_neg hz, if_neg h0]
      rw [e]
      exact ⟨_, ⟨_, [], sd', ⟨rfl, rfl⟩, hR', rfl, rfl⟩, by simp⟩
theorem openJ_code (d : DiskS) : (∃ j, d.openJ.2.1 = some j ∧ d.openJ.1 = 0) ∨ (d.openJ.2.1 = none ∧ d.openJ.1 ≠ 0) := by
  unfold DiskS.openJ
  split
  · exact .inr ⟨rfl, by show (221 : Int) ≠ 0; decide⟩
  · split
    · exact .inr ⟨rfl, by show (232 : Int) ≠ 0; decide⟩
    · split
      · exact .inl ⟨_, rfl, rfl⟩
      · split
        · exact .inl ⟨_, rfl, rfl⟩
        · rename_i h; exact .inr ⟨rfl, h⟩
theorem zero_keep (d : DiskS) (sz : Nat) (hz : sz ≤ d.vi.length) : (d.zero sz).2.vi.length = d.vi.length ∧ (d.zero sz).2.pend.length ≤ d.pend.length + 1 := by
  have h1 := write_len d sz (List.replicate (d.vi.length - sz) 0) (by rw [List.length_replicate]; omega)
  have h2 := write_pend d sz (List.replicate (d.vi.length - sz) 0)
  unfold DiskS.zero
  simp only
  split
  · exact ⟨h1, h2⟩
  · have := sync_pend (d.write sz (List.replicate (d.vi.length - sz) 0)).2
    exact ⟨by rw [sync_len]; exact h1, by omega⟩
theorem zero_on (d : DiskS) (sz : Nat) (ho : d.off = false) (hl : d.left = 0) : (d.zero sz).1 = 0 ∧ (d.zero sz).2.off = false ∧ (d.zero sz).2.left = 0 := by
  obtain ⟨off, left, du, vi, pend⟩ := d
  simp only at ho hl
  subst ho hl
  simp [DiskS.zero, DiskS.write, DiskS.sync, usedOff, usedLeft]
theorem load_sz {s : List UInt8} : ∀ (f : Nat) (rs : List (List UInt8)) (h : List UInt8) (sz : Nat) (rs' : List (List UInt8)) (h' : List UInt8) (sz' : Nat), loadL s f rs h sz = some (rs', h', sz') → sz ≤ s.length → sz' ≤ s.length
  | 0, rs, h, sz, rs', h', sz', hl, hz => by
    simp only [loadL, Option.some.injEq, Prod.mk.injEq] at hl
    omega
  | f + 1, rs, h, sz, rs', h', sz', hl, hz => by
    rw [loadL] at hl
    split at hl
    · simp only [Option.some.injEq, Prod.mk.injEq] at hl; omega
    · split at hl
      · simp only [Option.some.injEq, Prod.mk.injEq] at hl; omega
      · split at hl
        · split at hl
          · cases hl
          · split at hl
            · rename_i r k hd hc
              have hda := decS_at hd
              have h6 := congrArg List.length hc.2
              rw [List.length_take, List.length_drop] at h6
              exact load_sz f _ _ _ rs' h' sz' hl (by omega)
            · cases hl
        · cases hl
theorem openJ_keep (d : DiskS) : d.openJ.2.2.vi.length = d.vi.length ∧ d.openJ.2.2.pend.length ≤ d.pend.length + 1 ∧ (∀ j, d.openJ.2.1 = some j → j.br = false ∧ j.sz ≤ d.vi.length) ∧ (d.off = false → d.left = 0 → d.openJ.2.2.off = false ∧ d.openJ.2.2.left = 0) := by
  unfold DiskS.openJ
  split
  · exact ⟨rfl, Nat.le_succ _, fun j hj => (by cases hj), fun h1 _ => absurd (h1.symm.trans (by assumption : d.off = true)) (by decide)⟩
  · split
    · exact ⟨rfl, Nat.le_succ _, fun j hj => (by cases hj), fun h1 h2 => ⟨h1, h2⟩⟩
    · rename_i rs h sz hl
      have hz := load_sz _ _ _ _ _ _ _ hl (Nat.zero_le _)
      have hk := zero_keep d sz hz
      split
      · exact ⟨rfl, Nat.le_succ _, fun j hj => (by cases hj; exact ⟨rfl, hz⟩), fun h1 h2 => ⟨h1, h2⟩⟩
      · split
        · exact ⟨hk.1, hk.2, fun j hj => (by cases hj; exact ⟨rfl, hz⟩), fun h1 h2 => (zero_on d sz h1 h2).2⟩
        · exact ⟨hk.1, hk.2, fun j hj => (by cases hj), fun h1 h2 => (zero_on d sz h1 h2).2⟩
theorem openJ_new (n : Nat) (h : 1 ≤ n) : (DiskS.new n).openJ = (0, some ⟨[], zero32, 0, false⟩, DiskS.new n) := by
  have hl := (JD.new n h).load.1
  simp only at hl
  unfold DiskS.openJ
  rw [if_neg (by show ¬ false = true; simp), hl]
  simp only
  rw [if_pos (by simp [DiskS.new])]

end Go.Proofs.YthbadolcncojbaaGreatDoor
