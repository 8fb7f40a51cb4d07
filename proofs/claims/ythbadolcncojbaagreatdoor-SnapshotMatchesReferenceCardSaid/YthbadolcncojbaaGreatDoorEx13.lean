/- journal.Open and the Open of the reference over plain states. The world of chapter 23: open, begin. -/
/- Walking by chunks: a cut (what comes behind is proved once), a segment cut in two. No function of the program is named. -/
/- JournalOpensAnything: the law. -/
/- Walking by chunks: clear of a part of a row; rows behind a sort. No function of the program is named. -/
import Derived.Test.YthbadolcncojbaaGreatDoorEz
import Derived.Test.YthbadolcncojbaaGreatDoorRj2
import Derived.Test.YthbadolcncojbaaGreatDoorOp4
import Derived.Test.YthbadolcncojbaaGreatDoorJm6
import Derived.Test.YthbadolcncojbaaGreatDoorEx11
import Derived.Sort.OwnSortedInts
import Derived.Lib.SlicesCompact

namespace Go.Proofs.YthbadolcncojbaaGreatDoor
open Go.Proofs.Tryz
open Go Go.RowKit Gw
set_option linter.unusedVariables false
set_option maxRecDepth 100000
attribute [local irreducible] Gw.At Gw.Nx Gw.Ops
theorem open_off (dp : Nat) (d : DiskS) (sd : List Chunk) (hR : DiskR d dp sd) (hoff : d.off = true) : DoesR Tryz.prog 10 #[.pointer (some ⟨dp, 0, none⟩)] [sd] (.tuple #[.pointer none, .int .i64 221]) := by
 refine spec_enter func10 rfl ntmps10 rfl ?_
 intro u R
 refine Zb [0] ?_
 refine Zq <| Zg <| Za Y <| Za Y <| Z0 <| Zx <| Zq <| Zq <| Zg <| Zm Y ?_
 first | refine op_v (p_eql_nil_nil underlying26 Y Y) ?_ | refine op_v (p_eql_ptr_nil underlying26 Y Y) ?_
 refine Z0 <| Zx ?_
 refine at_if_bool Y (fun hc1 => ?_) (fun hc1 => ?_)
 ·
  cases hc1
 ·
  refine at_skip <| Zx <| Zq <| Zg <| Zm Y <| Zm Y <| Zr [_] Y call43 Y rfl (disk_size d dp sd hR) ?_
  rintro _ _ ⟨rfl, rfl⟩
  refine Zr [_, _, _] Y call16 Y rfl ((by have h := disk_read d dp sd hR 0 d.vi.length (by omega) (by have := hR.1.2.1; omega); rw [hoff] at h; simp only [if_true] at h; exact h : DoesR Tryz.prog 16 #[.pointer (some ⟨dp, 0, none⟩), .int .i64 ((0 : Nat) : Int), .int .i64 (d.vi.length : Int)] [sd] (.tuple #[.string (str []), .int .i64 221]))) ?_
  rintro _ _ ⟨rfl, rfl⟩
  refine Zm Y <| Zd Y rfl <| Zd Y rfl <| Za Y <| Za Y <| Z0 <| Zn [0, 4, 5] ?_
  refine Zx <| Zq <| Zq <| Zg <| Zm Y ?_
  first | refine op_v (p_neq_nat (n := 0) Y Y) ?_ | refine op_v (p_neq Y Y) ?_
  refine Z0 <| Zx ?_
  first | refine at_if Y (fun hc2 => ?_) (fun hc2 => ?_) | refine at_if_bool Y (fun hc2 => ?_) (fun hc2 => ?_)
  ·
   refine Zq <| Zg <| Zm Y <| Za Y <| Za Y <| Z0 <| Zx <| at_ret <| Zt ?_
   refine nx_end2 rfl results10 Y Y (by exact ⟨rfl, rfl⟩)
  ·
   exact absurd (by decide) hc2

theorem ropen_off (rp : Nat) (d : DiskS) (sd : List Chunk) (hR : RdR d rp sd) (hoff : d.off = true) (hk : d.pend.length ≤ 999990) : DoesR Tryz.prog 71 #[.pointer (some ⟨rp, 0, none⟩)] [sd] (.tuple #[.pointer none, .int .i64 221]) := by
 obtain ⟨hok, hco, v0, pv0, sv0, sp0, hr0, hp0, hs0⟩ := id hR
 obtain ⟨b0, c0, hv0⟩ := hr0.form
 rw [List.length_map] at hv0
 subst hv0
 refine spec_enter func71 rfl ntmps71 rfl ?_
 intro u R
 refine Zb [0] ?_
 refine Zq <| Zg <| Za Y <| Za Y <| Z0 <| Zx <| Zq <| Zg <| Zm Y <| Zp Y rfl <| Zh 0 underlying136 rfl rfl sizeOf36 Y <| op_rm (cs := [(rp, .cells #[.slice b0 d.du.length c0, pv0, .bool d.off, .int .i64 (d.left : Int)] 136 (0, 0))]) (by simp [hs0]) (p_load isAgg36 Y rfl) rfl rfl ?_
 refine Zv (p_len_slice underlying36 Y) <| Za Y <| Z0 <| Zx <| Zq ?_
 rw [hok.1]
 refine Zg <| Zm Y <| Zm Y <| Zr [_, _, _] Y call121 Y rfl ((by have h := rd_read d rp sd hR 0 d.vi.length (by omega) (by have := hok.2.1; omega) (by omega); rw [hoff] at h; simp only [if_true] at h; exact h : DoesR Tryz.prog 121 #[.pointer (some ⟨rp, 0, none⟩), .int .i64 ((0 : Nat) : Int), .int .i64 (d.vi.length : Int)] [sd] (.tuple #[.string (str []), .int .i64 221]))) ?_
 rintro _ _ ⟨rfl, rfl⟩
 refine Zm Y <| Zd Y rfl <| Zd Y rfl <| Za Y <| Za Y <| Z0 <| Zn [0, 4, 5, 6] ?_
 refine Zx <| Zq <| Zq <| Zg <| Zm Y ?_
 first | refine op_v (p_neq_nat (n := 0) Y Y) ?_ | refine op_v (p_neq Y Y) ?_
 refine Z0 <| Zx ?_
 first | refine at_if Y (fun hc1 => ?_) (fun hc1 => ?_) | refine at_if_bool Y (fun hc1 => ?_) (fun hc1 => ?_)
 ·
  refine Zq <| Zg <| Zm Y <| Za Y <| Za Y <| Z0 <| Zx <| at_ret <| Zt ?_
  refine nx_end2 rfl results71 Y Y (by exact ⟨rfl, rfl⟩)
 ·
  exact absurd (by decide) hc1

/-- What Open makes of a disk: the code, the journal, the disk. -/
def DiskS.openJ (d : DiskS) : Int × Option JrS × DiskS :=
  if d.off then (221, none, d) else
  match loadL d.vi (d.vi.length + 1) [] zero32 0 with
  | none => (232, none, d)
  | some (rs, h, sz) => if d.vi.drop sz = List.replicate (d.vi.length - sz) 0 then (0, some ⟨rs, h, sz, false⟩, d) else
    if (d.zero sz).1 = 0 then (0, some ⟨rs, h, sz, false⟩, (d.zero sz).2) else ((d.zero sz).1, none, (d.zero sz).2)
def JoP (jo : Option JrS) (dp : Nat) (v : Value) (s : List Chunk) : Prop :=
  match jo with
  | none => v = .pointer none ∧ s = []
  | some j => ∃ jp, v = .pointer (some ⟨jp, 0, none⟩) ∧ JrR j jp dp s
def KoP (jo : Option JrS) (rp : Nat) (v : Value) (s : List Chunk) : Prop :=
  match jo with
  | none => v = .pointer none ∧ s = []
  | some j => ∃ kp, v = .pointer (some ⟨kp, 0, none⟩) ∧ KrR j kp rp s
theorem zeros_iff (l : List UInt8) (n : Nat) (h : l.length = n) : (∀ x ∈ l, x = 0) ↔ l = List.replicate n 0 := by
  rw [List.eq_replicate_iff]; exact ⟨fun h2 => ⟨h, h2⟩, fun h2 => h2.2⟩
theorem popen_any (d : DiskS) (dp : Nat) (sd : List Chunk) (pa : Addr) (Tx Tg : TypeId) (zx zg : Nat × Nat) (hR : DiskR d dp sd) (hk : d.pend.length ≤ 999990) :
    Does Tryz.prog 10 #[.pointer (some ⟨dp, 0, none⟩)] [sd, [(4, .cells (kTab.map u32v).toArray Tg zg)], [(0, .cells #[.iface 299 (.pointer (some pa))] Tx zx)]] (fun r H' => ∃ v sj sd', JoP d.openJ.2.1 dp v sj ∧ DiskR d.openJ.2.2 dp sd' ∧ r = .tuple #[v, .int .i64 d.openJ.1] ∧ H' = [sj, sd', [(4, .cells (kTab.map u32v).toArray Tg zg)], [(0, .cells #[.iface 299 (.pointer (some pa))] Tx zx)]]) := by
  have hvi : d.vi.length ≤ 4194304 := hR.1.2.2.1
  cases hoff : d.off with
  | true =>
    have e : d.openJ = (221, none, d) := by unfold DiskS.openJ; rw [if_pos hoff]
    rw [e]
    refine does_mono (does_frame (open_off dp d sd hR hoff) [[(4, .cells (kTab.map u32v).toArray Tg zg)], [(0, .cells #[.iface 299 (.pointer (some pa))] Tx zx)]] (by simp)) ?_
    rintro r _ ⟨H2, ⟨rfl, rfl⟩, rfl⟩
    exact ⟨_, ⟨_, [], sd, ⟨rfl, rfl⟩, hR, rfl, rfl⟩, by simp⟩
  | false =>
    cases hl : loadL d.vi (d.vi.length + 1) [] zero32 0 with
    | none =>
      have e : d.openJ = (232, none, d) := by unfold DiskS.openJ; rw [if_neg (by rw [hoff]; simp), hl]
      rw [e]
      refine does_mono (open_damaged dp d sd pa Tx Tg zx zg hR hoff hl) ?_
      rintro r _ ⟨rfl, rfl⟩
      exact ⟨_, ⟨_, [], sd, ⟨rfl, rfl⟩, hR, rfl, rfl⟩, by simp⟩
    | some p =>
      obtain ⟨rs, h, sz⟩ := p
      by_cases hz : ∀ x ∈ d.vi.drop sz, x = 0
      · have e : d.openJ = (0, some ⟨rs, h, sz, false⟩, d) := by
          unfold DiskS.openJ; rw [if_neg (by rw [hoff]; simp), hl]; simp only
          rw [if_pos ((zeros_iff _ _ (by rw [List.length_drop])).1 hz)]
        rw [e]
        refine does_mono (open_clean dp d sd pa Tx Tg zx zg hR hoff rs h sz hl hz) ?_
        rintro r _ ⟨v, sr, jp, g1, g2, g3, g4, rfl, rfl⟩
        exact ⟨_, ⟨_, _, sd, ⟨jp, rfl, g1, by simp only; omega, v, sr, g4, rfl⟩, hR, rfl, rfl⟩, by simp⟩
      · have hz2 : ¬ d.vi.drop sz = List.replicate (d.vi.length - sz) 0 := fun h9 => hz ((zeros_iff _ _ (by rw [List.length_drop])).2 h9)
        refine does_mono (open_tail dp d sd pa Tx Tg zx zg hR hoff hk rs h sz hl hz) ?_
        rintro r _ ⟨v, sr, jp, sd', g1, g2, g3, g4, hR', ⟨h0, rfl, rfl⟩ | ⟨h0, rfl, rfl⟩⟩
        · have e : d.openJ = (0, some ⟨rs, h, sz, false⟩, (d.zero sz).2) := by
            unfold DiskS.openJ; rw [if_neg (by rw [hoff]; simp), hl]; simp only
            rw [if_neg hz2, if_pos h0]
          rw [e]
          exact ⟨_, ⟨_, _, sd', ⟨jp, rfl, g1, by simp only; omega, v, sr, g4, rfl⟩, hR', rfl, rfl⟩, by simp⟩
        · have e : d.openJ = ((d.zero sz).1, none, (d.zero sz).2) := by
            unfold DiskS.openJ; rw [if_neg (by rw [hoff]; simp), hl]; simp only
            rw [if_neg hz2, if_neg h0]
          rw [e]
          exact ⟨_, ⟨_, [], sd', ⟨rfl, rfl⟩, hR', rfl, rfl⟩, by simp⟩
theorem kopen_any (d : DiskS) (rp : Nat) (sd : List Chunk) (hR : RdR d rp sd) (hk : d.pend.length ≤ 999990) :
    Does Tryz.prog 71 #[.pointer (some ⟨rp, 0, none⟩)] [sd] (fun r H' => ∃ v sk sd', KoP d.openJ.2.1 rp v sk ∧ RdR d.openJ.2.2 rp sd' ∧ r = .tuple #[v, .int .i64 d.openJ.1] ∧ H' = [sk, sd']) := by
  have hvi : d.vi.length ≤ 4194304 := hR.1.2.2.1
  cases hoff : d.off with
  | true =>
    have e : d.openJ = (221, none, d) := by unfold DiskS.openJ; rw [if_pos hoff]
    rw [e]
    refine does_mono (ropen_off rp d sd hR hoff hk) ?_
    rintro r _ ⟨rfl, rfl⟩
    exact ⟨_, ⟨_, [], sd, ⟨rfl, rfl⟩, hR, rfl, rfl⟩, by simp⟩
  | false =>
    refine does_mono (ropen_on rp d sd hR hoff hk) ?_
    rintro r _ (⟨hl, rfl, rfl⟩ | ⟨rs, h, sz, v, sr, kp, hl, hh, g2, g3, g5, g4, ⟨hz, rfl, rfl⟩ | ⟨hz, sd', hR', ⟨h0, rfl, rfl⟩ | ⟨h0, rfl, rfl⟩⟩⟩)
    · have e : d.openJ = (232, none, d) := by unfold DiskS.openJ; rw [if_neg (by rw [hoff]; simp), hl]
      rw [e]
      exact ⟨_, ⟨_, [], sd, ⟨rfl, rfl⟩, hR, rfl, rfl⟩, by simp⟩
    · have e : d.openJ = (0, some ⟨rs, h, sz, false⟩, d) := by
        unfold DiskS.openJ; rw [if_neg (by rw [hoff]; simp), hl]; simp only
        rw [if_pos hz]
      rw [e]
      exact ⟨_, ⟨_, _, sd, ⟨kp, rfl, hh, by simp only; omega, g5, v, sr, g4, rfl⟩, hR, rfl, rfl⟩, by simp⟩
    · have e : d.openJ = (0, some ⟨rs, h, sz, false⟩, (d.zero sz).2) := by
        unfold DiskS.openJ; rw [if_neg (by rw [hoff]; simp), hl]; simp only
        rw [if_neg hz, if_pos h0]
      rw [e]
      exact ⟨_, ⟨_, _, sd', ⟨kp, rfl, hh, by simp only; omega, g5, v, sr, g4, rfl⟩, hR', rfl, rfl⟩, by simp⟩
    · have e : d.openJ = ((d.zero sz).1, none, (d.zero sz).2) := by
        unfold DiskS.openJ; rw [if_neg (by rw [hoff]; simp), hl]; simp only
        rw [if_neg hz, if_neg h0]
      rw [e]
      exact ⟨_, ⟨_, [], sd', ⟨rfl, rfl⟩, hR', rfl, rfl⟩, by simp⟩
theorem openJ_code (d : DiskS) : (∃ j, d.openJ.2.1 = some j ∧ d.openJ.1 = 0) ∨ (d.openJ.2.1 = none ∧ d.openJ.1 ≠ 0) := by
  unfold DiskS.openJ
  split
  · exact .inr ⟨rfl, by show (221 : Int) ≠ 0; decide⟩
  · split
    · exact .inr ⟨rfl, by show (232 : Int) ≠ 0; decide⟩
    · split
      · exact .inl ⟨_, rfl, rfl⟩
      · split
        · exact .inl ⟨_, rfl, rfl⟩
        · rename_i h; exact .inr ⟨rfl, h⟩
theorem zero_keep (d : DiskS) (sz : Nat) (hz : sz ≤ d.vi.length) : (d.zero sz).2.vi.length = d.vi.length ∧ (d.zero sz).2.pend.length ≤ d.pend.length + 1 := by
  have h1 := write_len d sz (List.replicate (d.vi.length - sz) 0) (by rw [List.length_replicate]; omega)
  have h2 := write_pend d sz (List.replicate (d.vi.length - sz) 0)
  unfold DiskS.zero
  simp only
  split
  · exact ⟨h1, h2⟩
  · have := sync_pend (d.write sz (List.replicate (d.vi.length - sz) 0)).2
    exact ⟨by rw [sync_len]; exact h1, by omega⟩
theorem zero_on (d : DiskS) (sz : Nat) (ho : d.off = false) (hl : d.left = 0) : (d.zero sz).1 = 0 ∧ (d.zero sz).2.off = false ∧ (d.zero sz).2.left = 0 := by
  obtain ⟨off, left, du, vi, pend⟩ := d
  simp only at ho hl
  subst ho hl
  simp [DiskS.zero, DiskS.write, DiskS.sync, usedOff, usedLeft]
theorem load_sz {s : List UInt8} : ∀ (f : Nat) (rs : List (List UInt8)) (h : List UInt8) (sz : Nat) (rs' : List (List UInt8)) (h' : List UInt8) (sz' : Nat), loadL s f rs h sz = some (rs', h', sz') → sz ≤ s.length → sz' ≤ s.length
  | 0, rs, h, sz, rs', h', sz', hl, hz => by
    simp only [loadL, Option.some.injEq, Prod.mk.injEq] at hl
    omega
  | f + 1, rs, h, sz, rs', h', sz', hl, hz => by
    rw [loadL] at hl
    split at hl
    · simp only [Option.some.injEq, Prod.mk.injEq] at hl; omega
    · split at hl
      · simp only [Option.some.injEq, Prod.mk.injEq] at hl; omega
      · split at hl
        · split at hl
          · cases hl
          · split at hl
            · rename_i r k hd hc
              have hda := decS_at hd
              have h6 := congrArg List.length hc.2
              rw [List.length_take, List.length_drop] at h6
              exact load_sz f _ _ _ rs' h' sz' hl (by omega)
            · cases hl
        · cases hl
theorem openJ_keep (d : DiskS) : d.openJ.2.2.vi.length = d.vi.length ∧ d.openJ.2.2.pend.length ≤ d.pend.length + 1 ∧ (∀ j, d.openJ.2.1 = some j → j.br = false ∧ j.sz ≤ d.vi.length) ∧ (d.off = false → d.left = 0 → d.openJ.2.2.off = false ∧ d.openJ.2.2.left = 0) := by
  unfold DiskS.openJ
  split
  · exact ⟨rfl, Nat.le_succ _, fun j hj => (by cases hj), fun h1 _ => absurd (h1.symm.trans (by assumption : d.off = true)) (by decide)⟩
  · split
    · exact ⟨rfl, Nat.le_succ _, fun j hj => (by cases hj), fun h1 h2 => ⟨h1, h2⟩⟩
    · rename_i rs h sz hl
      have hz := load_sz _ _ _ _ _ _ _ hl (Nat.zero_le _)
      have hk := zero_keep d sz hz
      split
      · exact ⟨rfl, Nat.le_succ _, fun j hj => (by cases hj; exact ⟨rfl, hz⟩), fun h1 h2 => ⟨h1, h2⟩⟩
      · split
        · exact ⟨hk.1, hk.2, fun j hj => (by cases hj; exact ⟨rfl, hz⟩), fun h1 h2 => (zero_on d sz h1 h2).2⟩
        · exact ⟨hk.1, hk.2, fun j hj => (by cases hj), fun h1 h2 => (zero_on d sz h1 h2).2⟩
end Go.Proofs.YthbadolcncojbaaGreatDoor

namespace Gw
open Go Go.RowKit
section
variable {P : Program} {cx : Cx} {x y : Code} {Q : Exit → Act → World → Prop} {env : Env} {H : Hp}
/-- A cut, of the slots and segments that x turns: B and R stay. -/
theorem at_cutB {e0 B : Env} {H0 R : Hp} (I : Env → Hp → Prop) (hp : Pull H0 H R) (hx : At P cx x (Exit.then (fun a w => ∃ e H1 a0, I e H1 ∧ St cx (e ++ B) (H1 ++ R) a0 w ∧ a = puts (e ++ B) a0) Q) (e0 ++ B) (H0 ++ R)) (hy : ∀ e H1, I e H1 → At P cx y Q (e ++ B) (H1 ++ R)) : At P cx (.seq x y) Q (e0 ++ B) H := fun a w hs => by
  have hs' : St cx (e0 ++ B) (H0 ++ R) a w := ⟨hs.size, hs.defers, hs.fit, hs.sat.perm hp.perm⟩
  refine wpIn_seq (wpIn_mono (hx a w hs') fun e a' w' he => ?_)
  cases e <;> first | exact he | (obtain ⟨e', H', a0, hm, hs2, rfl⟩ := he; exact hy e' H' hm a0 w' hs2)
theorem nx_cutB {I : Env → Hp → Prop} {B e' : Env} {R H' : Hp} (h : I e' H') (hp : Sub (H' ++ R) H := by repeat (first | exact Sub.refl _ | exact Sub.nil _ | (apply Sub.cons; (focus (repeat (first | exact One.here _ _ | apply One.there)))) | refine Sub.drop _ ?_)) : Nx cx ((Exit.then (fun a w => ∃ e H1 a0, I e H1 ∧ St cx (e ++ B) (H1 ++ R) a0 w ∧ a = puts (e ++ B) a0) Q) .normal) (e' ++ B) H := fun a _ hs => ⟨e', H', a, h, ⟨hs.size, hs.defers, hs.fit, hs.sat.sub hp.amid⟩, rfl⟩
end
end Gw


namespace Go.Proofs.YthbadolcncojbaaGreatDoor
open Go.Proofs.Tryz
open Go Go.RowKit Gw
set_option linter.unusedVariables false
set_option maxRecDepth 100000
attribute [local irreducible] Gw.At Gw.Nx Gw.Ops
theorem jr_appendR (j : JrS) (d : DiskS) (jp dp : Nat) (sj sl sd : List Chunk) (v : Value) (ls : List (List UInt8)) (Tg : TypeId) (zg : Nat × Nat) (hJ : JrR j jp dp sj) (hR : DiskR d dp sd) (hl : Row 9 v (ls.map strV) sl) (hbr : j.br = false) (hz : j.sz ≤ d.vi.length) (hk : d.pend.length ≤ 999990) (hls : ls.length ≤ 1000000) (hs : ∀ r ∈ ls, r.length ≤ 65536) (hb : (j.append d ls).2.1.rs.length ≤ 4194304) :
    Does Tryz.prog 13 #[.pointer (some ⟨jp, 0, none⟩), v] [sj, sl, sd, [(4, .cells (kTab.map u32v).toArray Tg zg)]] (fun r H' => ∃ sj' sd', r = .int .i64 (j.append d ls).1 ∧ JrR (j.append d ls).2.1 jp dp sj' ∧ DiskR (j.append d ls).2.2 dp sd' ∧ H' = [sj', sl, sd', [(4, .cells (kTab.map u32v).toArray Tg zg)]]) := by
  refine does_mono (jr_append j d jp dp sj sl sd v ls Tg zg hJ hR hl hbr hz hk hls (isLong_none hs)) ?_
  rintro r _ ⟨v', sr', sd', rfl, h1, h2, rfl⟩
  have hh : (j.append d ls).2.1.h.length = 32 := by
    have h32 := hJ.1
    unfold JrS.append
    repeat' split
    all_goals first | exact h32 | exact headL_len ls j.h h32
  exact ⟨_, ⟨_, sd', rfl, ⟨hh, hb, v', sr', h1, rfl⟩, h2, rfl⟩, by simp⟩
end Go.Proofs.YthbadolcncojbaaGreatDoor


namespace Gw
open Go Go.RowKit Go.Sort
section
variable {P : Program} {u : World} {env : Env} {H R : Hp} {d : Option Nat} {ty : TypeId} {pos : String} {af : Array Edge} {g : Option (Nat × Bool)}
theorem over_nil (c : Array Value) (k : Nat) : over c k [] = c := by
  unfold over
  apply Array.toList_inj.1
  simp
theorem w_clear_sub {x : Operand} {t e : TypeId} {i : TypeInfo} {z : Value} {gb k cap m c : Nat} {cur : Array Value} {zz : Nat × Nat}
    (ht : P.underlying t = some (.slice e)) (hi : P.info? e = some i) (hzi : i.zero = some z) (hz : z.cells = #[z]) (hz1 : z.oneCell' = true)
    (hx : ∀ a, ev a env x = .slice (cutAt (some ⟨gb, 0, none⟩) k cap 1) m c) (hm : k + m ≤ cap) (hcs : cur.size = cap) (hfr : Free zz cur.size) (hone : One [(gb, .cells cur e zz)] H R) :
    OpW P u ⟨d, .call ⟨.builtin .clear, #[x], #[t]⟩, ty, pos, af, g⟩ env H (fun _ H1 => H1 = [(gb, .cells (over cur k (List.replicate m z)) e zz)] :: R) (fun _ _ => False) := fun a w hsat K Kp hK _ => by
  have hs1 : Sat u ([(gb, .cells cur e zz)] :: R) w := hsat.perm (by simpa using hone.perm)
  have run_of : ∀ {v' : Value} {w' : World}, (Builtin.clear_ #[t] ty #[.slice (cutAt (some ⟨gb, 0, none⟩) k cap 1) m c]).run P w = .ok v' w' → (execOp (ev a env) ⟨d, .call ⟨.builtin .clear, #[x], #[t]⟩, ty, pos, af, g⟩).run P w = .ok (.value v') w' := fun h => by
    simp only [x_call, resolve, invoke, builtin, List.map_toArray, List.map_cons, List.map_nil, hx a, Sem.run_bind, Sem.run_pure, Result.andThen_ok, h]
  rcases Nat.eq_zero_or_pos m with h0 | h0
  · subst h0
    have hr : (Builtin.clear_ #[t] ty #[.slice (cutAt (some ⟨gb, 0, none⟩) k cap 1) 0 c]).run P w = .ok (.tuple #[]) w := by
      have : ∃ q, cutAt (some ⟨gb, 0, none⟩) k cap 1 = some q := by unfold cutAt; split <;> exact ⟨_, rfl⟩
      obtain ⟨q, hq⟩ := this
      rw [hq]
      simp [Builtin.clear_, run_underlying ht]
    rw [run_of hr]
    refine hK _ _ _ rfl ?_
    rw [List.replicate_zero, over_nil]
    exact hs1
  · have hq : cutAt (some ⟨gb, 0, none⟩) k cap 1 = some ⟨gb, k, none⟩ := by
      unfold cutAt; rw [if_neg (by omega), Option.map_some, add_addr, Nat.mul_one, Nat.zero_add]
    have hg := hs1.get (gb, .cells cur e zz) (by simp)
    have hzc : (Builtin.zeroCells z.cells m).toList = List.replicate m z := by rw [zeroCells_one z hz]
    have hst := run_storeCells_free (P := P) gb k e zz (Builtin.zeroCells z.cells m).toList 0 cur w hg hfr (by rw [hzc, List.length_replicate]; omega) (by rw [hzc]; intro y hy; rw [List.eq_of_mem_replicate hy]; exact hz1)
    have hr : (Builtin.clear_ #[t] ty #[.slice (cutAt (some ⟨gb, 0, none⟩) k cap 1) m c]).run P w = .ok (.tuple #[]) (w.setRow gb (over cur k (Builtin.zeroCells z.cells m).toList)) := by
      rw [hq]
      obtain ⟨m', rfl⟩ : ∃ m', m = m' + 1 := ⟨m - 1, by omega⟩
      simp [Builtin.clear_, run_underlying ht, run_zeroValue hi hzi, over] at hst ⊢
      simp [hst]
    rw [hzc] at hr
    rw [run_of hr]
    exact hK _ _ _ rfl (hs1.upd (.here _) rfl rfl rfl (setRow_heap w gb cur _ e zz hg) fun k hk => setRow_other w gb k _ hk)
end
/-- A row of integers as the sort's words have it. -/
theorem holds_free {w : World} {g : Nat} {cur : Array Value} {e : TypeId} {z : Nat × Nat} {zs : List Int} (hb : w.heap[g]? = some (.cells cur e z)) (hle : zs.length ≤ cur.size) (hfr : Free z cur.size) (ht : cur.toList.take zs.length = zs.map (Value.int .i64)) : Holds (Value.int .i64) w g 0 zs.toArray := by
  intro j hj
  have hj' : j < zs.length := by simpa using hj
  have hf := hfr j (by omega)
  have h1 : (cur.toList.take zs.length)[j]? = (zs.map (Value.int .i64))[j]? := by rw [ht]
  rw [List.getElem?_take_of_lt hj'] at h1
  refine ⟨?_, ?_⟩
  · simp only [World.cell?, hb, Nat.zero_add]
    simp only [Option.isSome_none, Bool.false_eq_true, if_false]
    rw [← Array.getElem?_toList, h1]
    simp [hj']
  · simp only [World.frozen?, hb, Nat.zero_add]
    simp; omega
theorem put_take (cur : Array Value) (ts : List Int) (h : ts.length ≤ cur.size) : (putCells (Value.int .i64) 0 ts.toArray cur).toList.take ts.length = ts.map (Value.int .i64) := by
  apply List.ext_getElem?
  intro j
  rw [List.getElem?_take]
  by_cases hj : j < ts.length
  · rw [if_pos hj, Array.getElem?_toList]
    unfold putCells
    rw [Array.getElem?_mapIdx, Array.getElem?_eq_getElem (by omega)]
    simp [hj]
  · rw [if_neg hj, List.getElem?_eq_none (by simp; omega)]
theorem put_size' (cur : Array Value) (ts : Array Int) : (putCells (Value.int .i64) 0 ts cur).size = cur.size := by simp [putCells]
/-- The memory behind a sort of a row. -/
theorem Sat.sorted {u w : World} {g n : Nat} {cur : Array Value} {e : TypeId} {z : Nat × Nat} {R : Hp} (d : Array Int) (os : Array Obj) (h : Sat u ([(g, .cells cur e z)] :: R) w) : Sat u ([(g, .cells (putCells (Value.int .i64) 0 d cur) e z)] :: R) (grow (putRow (Value.int .i64) (Sort.ahead w n) g 0 d) os) := by
  have hb := h.get (g, .cells cur e z) (by simp)
  have hg : g < w.heap.size := (Array.getElem?_eq_some_iff.1 hb).1
  have h1 : Sat u ([(g, .cells (putCells (Value.int .i64) 0 d cur) e z)] :: R) (putRow (Value.int .i64) (Sort.ahead w n) g 0 d) := by
    refine h.upd (.here _) rfl rfl rfl ?_ fun k hk => ?_
    · simp [putRow, mapBlock, Sort.ahead, Array.getElem?_modify, hb, onCells]
    · have : g ≠ k := fun e => hk e.symm
      simp [putRow, mapBlock, Sort.ahead, Array.getElem?_modify, this]
  exact h1.below ⟨rfl, rfl, rfl, by simp [grow], fun k hk => heap_grow_old _ _ hk⟩
theorem Sat.compacted {u w : World} {g n : Nat} {cur : Array Value} {e : TypeId} {z : Nat × Nat} {R : Hp} (d : Array Int) (h : Sat u ([(g, .cells cur e z)] :: R) w) : Sat u ([(g, .cells (putCells (Value.int .i64) 0 d cur) e z)] :: R) (putRow (Value.int .i64) (Sort.ahead w n) g 0 d) := by
  have := h.sorted (n := n) d #[]
  have e : grow (putRow (Value.int .i64) (Sort.ahead w n) g 0 d) #[] = putRow (Value.int .i64) (Sort.ahead w n) g 0 d := by simp [grow]; rfl
  rw [e] at this; exact this
/-- Segment s1 ++ s2 of H is cut in two. -/
inductive CutA (s1 s2 : List Chunk) : Hp → Hp → Prop
  | here (H : Hp) : CutA s1 s2 ((s1 ++ s2) :: H) (s1 :: s2 :: H)
  | there {H H' : Hp} (t : List Chunk) (h : CutA s1 s2 H H') : CutA s1 s2 (t :: H) (t :: H')
theorem CutA.flat {s1 s2 : List Chunk} {H H' : Hp} (h : CutA s1 s2 H H') : H.flatten = H'.flatten := by
  induction h with
  | here H => simp
  | there t h ih => simp only [List.flatten_cons, ih]
theorem at_cutA {P : Program} {cx : Cx} {cd : Code} {Q : Exit → Act → World → Prop} {env : Env} {s1 s2 : List Chunk} {H H' : Hp} (h : CutA s1 s2 H H') (k : At P cx cd Q env H') : At P cx cd Q env H := at_flat h.flat k
/-- Two segments are brought together at the head. -/
theorem at_join {P : Program} {cx : Cx} {cd : Code} {Q : Exit → Act → World → Prop} {env : Env} {s1 s2 : List Chunk} {H R1 R2 : Hp} (h1 : One s1 H R1) (h2 : One s2 R1 R2) (k : At P cx cd Q env ((s1 ++ s2) :: R2)) : At P cx cd Q env H := fun a w hs =>
  k a w ⟨hs.size, hs.defers, hs.fit, hs.sat.perm (by
    simp only [List.flatten_cons, List.append_assoc]
    exact h1.perm.trans (List.Perm.append_left s1 h2.perm))⟩
end Gw
