/- Walking by chunks: a cut (what comes behind is proved once), a segment cut in two. No function of the program is named. -/
/- JournalOpensAnything: the law. -/
/- Walking by chunks: clear of a part of a row; rows behind a sort. No function of the program is named. -/
/- Cut on both sides; the invariant of a journal, its disk and their references. JournalMatchesReference: a call on both. -/
import Derived.Test.YthbadolcncojbaaGreatDoorEx11
import Derived.Test.YthbadolcncojbaaGreatDoorOa2
import Derived.Test.YthbadolcncojbaaGreatDoorJm6
import Derived.Test.YthbadolcncojbaaGreatDoorTl2
import Derived.Sort.OwnSortedInts
import Derived.Lib.SlicesCompact
import Derived.Test.YthbadolcncojbaaGreatDoorRd2
import Derived.Shelf.Slices.In.SortNone
namespace Gw
open Go Go.RowKit
section
variable {P : Program} {cx : Cx} {x y : Code} {Q : Exit → Act → World → Prop} {env : Env} {H : Hp}
/-- A cut, of the slots and segments that x turns: B and R stay. -/
theorem at_cutB {e0 B : Env} {H0 R : Hp} (I : Env → Hp → Prop) (hp : Pull H0 H R) (hx : At P cx x (Exit.then (fun a w => ∃ e H1 a0, I e H1 ∧ St cx (e ++ B) (H1 ++ R) a0 w ∧ a = puts (e ++ B) a0) Q) (e0 ++ B) (H0 ++ R)) (hy : ∀ e H1, I e H1 → At P cx y Q (e ++ B) (H1 ++ R)) : At P cx (.seq x y) Q (e0 ++ B) H := fun a w hs => by
  have hs' : St cx (e0 ++ B) (H0 ++ R) a w := ⟨hs.size, hs.defers, hs.fit, hs.sat.perm hp.perm⟩
  refine wpIn_seq (wpIn_mono (hx a w hs') fun e a' w' he => ?_)
  cases e <;> first | exact he | (obtain ⟨e', H', a0, hm, hs2, rfl⟩ := he; exact hy e' H' hm a0 w' hs2)
theorem nx_cutB {I : Env → Hp → Prop} {B e' : Env} {R H' : Hp} (h : I e' H') (hp : Sub (H' ++ R) H := by repeat (first | exact Sub.refl _ | exact Sub.nil _ | (apply Sub.cons; (focus (repeat (first | exact One.here _ _ | apply One.there)))) | refine Sub.drop _ ?_)) : Nx cx ((Exit.then (fun a w => ∃ e H1 a0, I e H1 ∧ St cx (e ++ B) (H1 ++ R) a0 w ∧ a = puts (e ++ B) a0) Q) .normal) (e' ++ B) H := fun a _ hs => ⟨e', H', a, h, ⟨hs.size, hs.defers, hs.fit, hs.sat.sub hp.amid⟩, rfl⟩
end
end Gw


namespace Go.Proofs.YthbadolcncojbaaGreatDoor
open Go Go.RowKit Gw
set_option linter.unusedVariables false
set_option maxRecDepth 100000
attribute [local irreducible] Gw.At Gw.Nx Gw.Ops
theorem jr_appendR (j : JrS) (d : DiskS) (jp dp : Nat) (sj sl sd : List Chunk) (v : Value) (ls : List (List UInt8)) (Tg : TypeId) (zg : Nat × Nat) (hJ : JrR j jp dp sj) (hR : DiskR d dp sd) (hl : Row 9 v (ls.map strV) sl) (hbr : j.br = false) (hz : j.sz ≤ d.vi.length) (hk : d.pend.length ≤ 999990) (hls : ls.length ≤ 1000000) (hs : ∀ r ∈ ls, r.length ≤ 65536) (hb : (j.append d ls).2.1.rs.length ≤ 4194304) :
    Does Tryz.prog 13 #[.pointer (some ⟨jp, 0, none⟩), v] [sj, sl, sd, [(4, .cells (kTab.map u32v).toArray Tg zg)]] (fun r H' => ∃ sj' sd', r = .int .i64 (j.append d ls).1 ∧ JrR (j.append d ls).2.1 jp dp sj' ∧ DiskR (j.append d ls).2.2 dp sd' ∧ H' = [sj', sl, sd', [(4, .cells (kTab.map u32v).toArray Tg zg)]]) := by
  refine does_mono (jr_append j d jp dp sj sl sd v ls Tg zg hJ hR hl hbr hz hk hls (isLong_none hs)) ?_
  rintro r _ ⟨v', sr', sd', rfl, h1, h2, rfl⟩
  have hh : (j.append d ls).2.1.h.length = 32 := by
    have h32 := hJ.1
    unfold JrS.append
    repeat' split
    all_goals first | exact h32 | exact headL_len ls j.h h32
  exact ⟨_, ⟨_, sd', rfl, ⟨hh, hb, v', sr', h1, rfl⟩, h2, rfl⟩, by simp⟩
end Go.Proofs.YthbadolcncojbaaGreatDoor


namespace Gw
open Go Go.RowKit Go.Sort
section
variable {P : Program} {u : World} {env : Env} {H R : Hp} {d : Option Nat} {ty : TypeId} {pos : String} {af : Array Edge} {g : Option (Nat × Bool)}
end
/-- Segment s1 ++ s2 of H is cut in two. -/
inductive CutA (s1 s2 : List Chunk) : Hp → Hp → Prop
  | here (H : Hp) : CutA s1 s2 ((s1 ++ s2) :: H) (s1 :: s2 :: H)
  | there {H H' : Hp} (t : List Chunk) (h : CutA s1 s2 H H') : CutA s1 s2 (t :: H) (t :: H')
theorem CutA.flat {s1 s2 : List Chunk} {H H' : Hp} (h : CutA s1 s2 H H') : H.flatten = H'.flatten := by
  induction h with
  | here H => simp
  | there t h ih => simp only [List.flatten_cons, ih]
theorem at_cutA {P : Program} {cx : Cx} {cd : Code} {Q : Exit → Act → World → Prop} {env : Env} {s1 s2 : List Chunk} {H H' : Hp} (h : CutA s1 s2 H H') (k : At P cx cd Q env H') : At P cx cd Q env H := at_flat h.flat k
/-- Two segments are brought together at the head. -/
theorem at_join {P : Program} {cx : Cx} {cd : Code} {Q : Exit → Act → World → Prop} {env : Env} {s1 s2 : List Chunk} {H R1 R2 : Hp} (h1 : One s1 H R1) (h2 : One s2 R1 R2) (k : At P cx cd Q env ((s1 ++ s2) :: R2)) : At P cx cd Q env H := fun a w hs =>
  k a w ⟨hs.size, hs.defers, hs.fit, hs.sat.perm (by
    simp only [List.flatten_cons, List.append_assoc]
    exact h1.perm.trans (List.Perm.append_left s1 h2.perm))⟩
end Gw


namespace Go.Proofs.YthbadolcncojbaaGreatDoor
open Go Go.RowKit Gw
set_option linter.unusedVariables false
set_option maxRecDepth 100000
attribute [local irreducible] Gw.At Gw.Nx Gw.Ops
/-- The pending writes lie on the disk. -/
def PendIn (d : DiskS) (n : Nat) : Prop := ∀ p ∈ d.pend, p.1 + p.2.length ≤ n ∧ p.1 < n
theorem write_in {d : DiskS} {n : Nat} (h : PendIn d n) (o : Nat) (s : List UInt8) (h1 : o + s.length ≤ n) (h2 : o < n) : PendIn (d.write o s).2 n := by
  unfold DiskS.write
  split
  · exact h
  · intro p hp
    rcases List.mem_append.1 hp with hp | hp
    · exact h p hp
    · rw [List.mem_singleton.1 hp]; exact ⟨h1, h2⟩
theorem sync_in {d : DiskS} {n : Nat} (h : PendIn d n) : PendIn d.sync.2 n := by
  unfold DiskS.sync
  split
  · exact h
  · intro p hp; cases hp
theorem sync_zero {d : DiskS} (h : d.sync.1 = 0) : d.sync.2.pend = [] := by
  unfold DiskS.sync at *
  split
  · rename_i ho; rw [if_pos ho] at h; exact absurd h (by show ¬ (221 : Int) = 0; decide)
  · rfl
theorem app_keep (d : DiskS) (sz n k : Nat) (out : List UInt8) (hl : d.vi.length = n) (hp : d.pend.length ≤ k) (hi : PendIn d n) (hf : sz + out.length ≤ n) (h2 : 2 ≤ out.length) : (d.app sz out).2.vi.length = n ∧ (d.app sz out).2.pend.length ≤ k + 1 ∧ PendIn (d.app sz out).2 n := by
  have a1 := write_len d (sz + 1) out.tail (by rw [List.length_tail]; omega)
  have a2 := write_pend d (sz + 1) out.tail
  have a3 := write_in hi (sz + 1) out.tail (by rw [List.length_tail]; omega) (by omega)
  unfold DiskS.app
  simp only
  split
  · exact ⟨by omega, by omega, a3⟩
  · generalize (d.write (sz + 1) out.tail).2 = d1 at *
    have b1 := sync_len d1
    have b2 := sync_pend d1
    have b3 := sync_in a3
    split
    · exact ⟨by omega, by omega, b3⟩
    · rename_i hz
      have b4 := sync_zero (Classical.not_not.1 hz)
      generalize d1.sync.2 = d2 at *
      have c1 := write_len d2 sz (out.take 1) (by rw [List.length_take]; omega)
      have c2 := write_pend d2 sz (out.take 1)
      have c3 := write_in b3 sz (out.take 1) (by rw [List.length_take]; omega) (by omega)
      rw [b4, List.length_nil] at c2
      split
      · exact ⟨by omega, by omega, c3⟩
      · generalize (d2.write sz (out.take 1)).2 = d3 at *
        have e1 := sync_len d3
        have e2 := sync_pend d3
        exact ⟨by omega, by omega, sync_in c3⟩
/-- The world's plain state is in order. -/
structure Wok (n k : Nat) (d : DiskS) (jo : Option JrS) : Prop where
  len : d.vi.length = n
  pend : d.pend.length ≤ k
  inr : PendIn d n
  jr : ∀ j, jo = some j → j.sz ≤ n ∧ j.rs.length ≤ j.sz
theorem Wok.cut {n k : Nat} {d : DiskS} {jo : Option JrS} (h : Wok n k d jo) (m : Nat) : Wok n (k + 1) (d.cut m).2 jo := by
  unfold DiskS.cut
  split <;> exact ⟨h.len, Nat.le_succ_of_le h.pend, h.inr, h.jr⟩
theorem load_rs {s : List UInt8} : ∀ (f : Nat) (rs : List (List UInt8)) (h : List UInt8) (sz : Nat) (rs' : List (List UInt8)) (h' : List UInt8) (sz' : Nat), loadL s f rs h sz = some (rs', h', sz') → rs.length ≤ sz → rs'.length ≤ sz'
  | 0, rs, h, sz, rs', h', sz', hl, hz => by
    simp only [loadL, Option.some.injEq, Prod.mk.injEq] at hl
    obtain ⟨rfl, _, rfl⟩ := hl; exact hz
  | f + 1, rs, h, sz, rs', h', sz', hl, hz => by
    rw [loadL] at hl
    split at hl
    · simp only [Option.some.injEq, Prod.mk.injEq] at hl; obtain ⟨rfl, _, rfl⟩ := hl; exact hz
    · split at hl
      · simp only [Option.some.injEq, Prod.mk.injEq] at hl; obtain ⟨rfl, _, rfl⟩ := hl; exact hz
      · split at hl
        · split at hl
          · cases hl
          · split at hl
            · exact load_rs f _ _ _ rs' h' sz' hl (by rw [List.length_append, List.length_singleton]; simp only [recS, List.length_cons, List.length_append]; omega)
            · cases hl
        · cases hl
theorem Wok.open {n k : Nat} {d : DiskS} {jo : Option JrS} (h : Wok n k d jo) (hn : 1 ≤ n) : Wok n (k + 1) d.openJ.2.2 d.openJ.2.1 := by
  have hk := openJ_keep d
  refine ⟨by rw [hk.1]; exact h.len, by have := hk.2.1; have := h.pend; omega, ?_, ?_⟩
  · unfold DiskS.openJ
    split
    · exact h.inr
    · split
      · exact h.inr
      · rename_i rs hh sz hl
        split
        · exact h.inr
        · rename_i hne
          have hz : sz < d.vi.length := by
            have h1 := load_sz _ _ _ _ _ _ _ hl (Nat.zero_le _)
            rcases Nat.lt_or_ge sz d.vi.length with h9 | h9
            · exact h9
            · exact absurd (by rw [List.drop_of_length_le h9, show d.vi.length - sz = 0 by omega]; rfl) hne
          have hzi : PendIn (d.zero sz).2 n := by
            have h1 := write_in h.inr sz (List.replicate (d.vi.length - sz) 0) (by rw [List.length_replicate, ← h.len]; omega) (by rw [← h.len]; exact hz)
            unfold DiskS.zero
            simp only
            split
            · exact h1
            · exact sync_in h1
          split <;> exact hzi
  · intro j hj
    have h1 := hk.2.2.1 j hj
    rw [h.len] at h1
    refine ⟨h1.2, ?_⟩
    unfold DiskS.openJ at hj
    split at hj
    · cases hj
    · split at hj
      · cases hj
      · rename_i rs hh sz hl
        have hr := load_rs _ _ _ _ _ _ _ hl (Nat.zero_le _)
        split at hj
        · cases hj; exact hr
        · split at hj
          · cases hj; exact hr
          · cases hj
theorem out_count : ∀ (ls : List (List UInt8)) (h : List UInt8), ls.length ≤ (outL h ls).length
  | [], h => by simp [outL]
  | x :: t, h => by
    have := out_count t (chainS h x)
    simp only [outL, List.length_append, List.length_cons, recS]; omega
theorem Wok.append {n k : Nat} {d : DiskS} {j : JrS} (h : Wok n k d (some j)) (ls : List (List UInt8)) (hs : ∀ r ∈ ls, r.length ≤ 65536) : Wok n (k + 1) (j.append d ls).2.2 (some (j.append d ls).2.1) := by
  have hj := h.jr j rfl
  have same : Wok n (k + 1) d (some j) := ⟨h.len, Nat.le_succ_of_le h.pend, h.inr, h.jr⟩
  unfold JrS.append
  split
  · exact same
  split
  · exact same
  rename_i hf
  split
  · exact same
  rename_i hne
  have h2 := outL_two j.h ls hs hne
  have hk := app_keep d j.sz n k (outL j.h ls) h.len h.pend h.inr (by rw [← h.len]; omega) h2
  split
  · exact ⟨hk.1, hk.2.1, hk.2.2, fun j' hj' => by cases hj'; exact hj⟩
  · refine ⟨hk.1, hk.2.1, hk.2.2, fun j' hj' => ?_⟩
    cases hj'
    have := out_count ls j.h
    exact ⟨by show j.sz + (outL j.h ls).length ≤ n; rw [← h.len]; omega, by show (j.rs ++ ls).length ≤ j.sz + (outL j.h ls).length; rw [List.length_append]; omega⟩
theorem jr_app_any (j : JrS) (d : DiskS) (jp dp : Nat) (sj sl sd : List Chunk) (v : Value) (ls : List (List UInt8)) (Tg : TypeId) (zg : Nat × Nat) {n k : Nat} (hW : Wok n k d (some j)) (hn : n ≤ 4194304) (hJ : JrR j jp dp sj) (hR : DiskR d dp sd) (hl : Row 9 v (ls.map strV) sl) (hk : k ≤ 999990) (hls : ls.length ≤ 1000000) (hs : ∀ r ∈ ls, r.length ≤ 65536) :
    Does Tryz.prog 13 #[.pointer (some ⟨jp, 0, none⟩), v] [sj, sl, sd, [(4, .cells (kTab.map u32v).toArray Tg zg)]] (fun r H' => ∃ sj' sd', r = .int .i64 (j.append d ls).1 ∧ JrR (j.append d ls).2.1 jp dp sj' ∧ DiskR (j.append d ls).2.2 dp sd' ∧ H' = [sj', sl, sd', [(4, .cells (kTab.map u32v).toArray Tg zg)]]) := by
  cases hbr : j.br with
  | true =>
    have e : j.append d ls = (230, j, d) := by unfold JrS.append; rw [if_pos (.inl hbr)]
    rw [e]
    refine does_mono (does_frame (jr_broken j jp dp sj v hJ hbr) [sl, sd, [(4, .cells (kTab.map u32v).toArray Tg zg)]] (by simp)) ?_
    rintro r _ ⟨H2, ⟨rfl, rfl⟩, rfl⟩
    exact ⟨_, ⟨sj, sd, rfl, hJ, hR, rfl⟩, by simp⟩
  | false =>
    have hj := hW.jr j rfl
    have hb := (hW.append ls hs).jr _ rfl
    exact jr_appendR j d jp dp sj sl sd v ls Tg zg hJ hR hl hbr (by rw [hW.len]; exact hj.1) (by have := hW.pend; omega) hls hs (by omega)
theorem kr_app_any (j : JrS) (d : DiskS) (kp rp : Nat) (sk sl sd : List Chunk) (v : Value) (ls : List (List UInt8)) {n k : Nat} (hW : Wok n k d (some j)) (hn : n ≤ 4194304) (hK : KrR j kp rp sk) (hR : RdR d rp sd) (hl : Row 9 v (ls.map strV) sl) (hk : k ≤ 999990) (hls : ls.length ≤ 1000000) (hs : ∀ r ∈ ls, r.length ≤ 65536) :
    Does Tryz.prog 63 #[.pointer (some ⟨kp, 0, none⟩), v] [sk, sl, sd] (fun r H' => ∃ sk' sd', r = .int .i64 (j.append d ls).1 ∧ KrR (j.append d ls).2.1 kp rp sk' ∧ RdR (j.append d ls).2.2 rp sd' ∧ H' = [sk', sl, sd']) := by
  have hj := hW.jr j rfl
  cases hbr : j.br with
  | true =>
    have e : j.append d ls = (230, j, d) := by unfold JrS.append; rw [if_pos (.inl hbr)]
    rw [e]
    obtain ⟨hh, hkn, hks, v0, sr, hrow, rfl⟩ := hK
    rw [hbr]
    refine does_mono (does_frame (rappend_broken kp rp v0 (.int .i64 (j.sz : Int)) v) [sr, sl, sd] (by simp)) ?_
    rintro r _ ⟨H2, ⟨rfl, rfl⟩, rfl⟩
    exact ⟨_, ⟨_, sd, rfl, ⟨hh, hkn, hks, v0, sr, hrow, by rw [hbr]⟩, hR, rfl⟩, by simp⟩
  | false =>
    have hb := (hW.append ls hs).jr _ rfl
    exact kr_append j d kp rp sk sl sd v ls hK hR hl hbr (by rw [hW.len]; exact hj.1) (by have := hW.pend; omega) hls hs (by omega)

end Go.Proofs.YthbadolcncojbaaGreatDoor
