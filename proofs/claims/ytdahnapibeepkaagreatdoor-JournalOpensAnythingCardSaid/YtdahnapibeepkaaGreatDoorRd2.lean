/- The reference of layer 22 over plain states. -/
import Derived.Test.YtdahnapibeepkaaGreatDoorRd1
namespace Go.Proofs.YtdahnapibeepkaaGreatDoor
open Go Go.RowKit Gw
set_option linter.unusedVariables false
set_option maxRecDepth 100000
attribute [local irreducible] Gw.At Gw.Nx Gw.Ops
def DiskS.coh (d : DiskS) : Prop := d.vi = vis d.du d.pend ∧ ∀ p ∈ d.pend, p.1 + p.2.length ≤ d.du.length
/-- The memory s is a disk of the reference in the state d. -/
def RdR (d : DiskS) (rp : Nat) (s : List Chunk) : Prop := d.ok ∧ d.coh ∧ ∃ v pv sv sp, Row 5 v (d.du.map u8v) sv ∧ RowS 2 112 pv d.pend.length (pendC d.pend) sp ∧
  s = (rp, .cells #[v, pv, .bool d.off, .int .i64 (d.left : Int)] 77 (0, 0)) :: (sv ++ sp)
theorem coh_write {d : DiskS} (h : d.coh) (hl : d.du.length = d.vi.length) (o : Nat) (b : List UInt8) (hb : o + b.length ≤ d.vi.length) : (d.write o b).2.coh := by
  obtain ⟨off, left, du, vi, pend⟩ := d
  obtain ⟨h1, h2⟩ := h
  simp only at h1 h2 hl hb
  unfold DiskS.write
  cases off
  · refine ⟨by show splice vi o b = vis du (pend ++ [(o, b)]); rw [vis_snoc, ← h1], fun p hp => ?_⟩
    rcases List.mem_append.1 hp with hp | hp
    · exact h2 p hp
    · rw [List.mem_singleton.1 hp]; show o + b.length ≤ du.length; omega
  · exact ⟨h1, h2⟩
theorem coh_sync {d : DiskS} (h : d.coh) : d.sync.2.coh := by
  unfold DiskS.sync
  split
  · exact h
  · exact ⟨rfl, by simp⟩
theorem coh_new (n : Nat) : (DiskS.new n).coh := ⟨rfl, by simp [DiskS.new]⟩
theorem coh_cut {d : DiskS} (h : d.coh) (m : Nat) : (d.cut m).2.coh := by
  unfold DiskS.cut
  split <;> exact h
theorem ok_write {d : DiskS} (h : d.ok) (o : Nat) (b : List UInt8) (hb : o + b.length ≤ d.vi.length) : (d.write o b).2.ok := by
  obtain ⟨off, left, du, vi, pend⟩ := d
  obtain ⟨h1, h2, h3, h4⟩ := h
  simp only at h1 h2 h3 h4 hb
  have := splice_len vi o b hb
  unfold DiskS.write
  cases off
  · exact ⟨by simp only [Bool.false_eq_true, if_false]; omega, by simp only [Bool.false_eq_true, if_false]; omega, by simp only [Bool.false_eq_true, if_false]; omega, by simp only [Bool.false_eq_true, if_false, usedLeft]; omega⟩
  · exact ⟨h1, h2, h3, h4⟩
theorem ok_sync {d : DiskS} (h : d.ok) : d.sync.2.ok := by
  unfold DiskS.sync
  split
  · exact h
  · exact ⟨rfl, h.2.1, h.2.2.1, h.2.2.2⟩
theorem rd_write (d : DiskS) (rp : Nat) (s : List Chunk) (hR : RdR d rp s) (o : Nat) (b : List UInt8) (h : o + b.length ≤ d.vi.length) (hk : d.pend.length ≤ 1000000) :
    Does Tryz.prog 14 #[.pointer (some ⟨rp, 0, none⟩), .int .i64 (o : Int), .string (str b)] [s] (fun r H' => ∃ s', H' = [s'] ∧ r = .int .i64 (d.write o b).1 ∧ RdR (d.write o b).2 rp s') := by
  obtain ⟨hok, hco, v, pv, sv, sp, hr, hp, rfl⟩ := hR
  have hok' := ok_write hok o b h
  have hco' := coh_write hco hok.1 o b h
  obtain ⟨off, left, du, vi, pend⟩ := d
  obtain ⟨hl, h1, h4, hlf⟩ := hok
  have hin := hco.2
  simp only at *
  cases off with
  | true =>
    refine does_mono (does_frame (rwrite_off rp v pv (.int .i64 (left : Int)) o (str b)) [sv ++ sp] (by simp)) ?_
    rintro r _ ⟨H2, ⟨rfl, rfl⟩, rfl⟩
    exact ⟨[_], ⟨_, rfl, rfl, hok', hco', v, pv, sv, sp, hr, hp, rfl⟩, by simp [DiskS.write]⟩
  | false =>
    have fin : ∀ (lf : Nat), lf = left → Does Tryz.prog 14 #[.pointer (some ⟨rp, 0, none⟩), .int .i64 (o : Int), .string (str b)] [[(rp, .cells #[v, pv, .bool false, .int .i64 (lf : Int)] 77 (0, 0))], sv, sp] (fun r H' => ∃ pv' sp', r = .int .i64 0 ∧ RowS 2 112 pv' (pend.length + 1) (pendC pend ++ [.int .i64 (o : Int), .string (str b)]) sp' ∧ H' = [[(rp, .cells #[v, pv', .bool (usedOff false lf), .int .i64 ((usedLeft lf : Nat) : Int)] 77 (0, 0))], sv, sp']) := by
      intro lf e
      rcases (show lf = 0 ∨ lf = 1 ∨ ∃ m, lf = m + 2 ∧ m ≤ 4194304 from by
        rcases Nat.lt_or_ge lf 2 with h9 | h9
        · omega
        · exact .inr (.inr ⟨lf - 2, by omega, by omega⟩)) with rfl | rfl | ⟨m, rfl, hm⟩
      · exact rwrite0 rp hr hp hin (by omega) (by omega) hk o b (by omega)
      · exact rwrite1 rp hr hp hin (by omega) (by omega) hk o b (by omega)
      · exact rwrite2 m hm rp hr hp hin (by omega) (by omega) hk o b (by omega)
    refine does_mono (does_flat (by simp) (fin left rfl)) ?_
    rintro r _ ⟨pv', sp', rfl, hp', rfl⟩
    refine ⟨[_], ⟨_, rfl, rfl, hok', hco', v, pv', sv, sp', hr, ?_, rfl⟩, by simp [DiskS.write]⟩
    simp only [DiskS.write, Bool.false_eq_true, if_false, List.length_append, List.length_cons, List.length_nil]
    have : pendC (pend ++ [(o, b)]) = pendC pend ++ [.int .i64 (o : Int), .string (str b)] := by simp [pendC]
    rw [this]; exact hp'
theorem rd_sync (d : DiskS) (rp : Nat) (s : List Chunk) (hR : RdR d rp s) (hk : d.pend.length ≤ 1000000) :
    Does Tryz.prog 44 #[.pointer (some ⟨rp, 0, none⟩)] [s] (fun r H' => ∃ s', H' = [s'] ∧ r = .int .i64 d.sync.1 ∧ RdR d.sync.2 rp s') := by
  obtain ⟨hok, hco, v, pv, sv, sp, hr, hp, rfl⟩ := hR
  have hok' := ok_sync hok
  have hco' := coh_sync hco
  obtain ⟨off, left, du, vi, pend⟩ := d
  obtain ⟨hl, h1, h4, hlf⟩ := hok
  obtain ⟨hvi, hin⟩ := hco
  simp only at *
  cases off with
  | true =>
    refine does_mono (does_frame (rsync_off rp v pv (.int .i64 (left : Int))) [sv ++ sp] (by simp)) ?_
    rintro r _ ⟨H2, ⟨rfl, rfl⟩, rfl⟩
    exact ⟨[_], ⟨_, rfl, rfl, hok', hco', v, pv, sv, sp, hr, hp, rfl⟩, by simp [DiskS.sync]⟩
  | false =>
    refine does_mono (does_flat (by simp) (rsync_on rp left hr hp hin (by omega) (by omega) hk)) ?_
    rintro r _ ⟨v', s2, rfl, hr2, rfl⟩
    refine ⟨[_], ⟨_, rfl, rfl, hok', hco', v', .slice none 0 0, s2, [], ?_, rowS_nil 2 _, rfl⟩, by simp [DiskS.sync]⟩
    show Row _ v' (vi.map u8v) s2
    rw [hvi]; exact hr2
theorem rd_read (d : DiskS) (rp : Nat) (s : List Chunk) (hR : RdR d rp s) (o m : Nat) (h : o + m ≤ d.vi.length) (ho : o < d.vi.length) (hk : d.pend.length ≤ 1000000) :
    DoesR Tryz.prog 75 #[.pointer (some ⟨rp, 0, none⟩), .int .i64 (o : Int), .int .i64 (m : Int)] [s] (if d.off then .tuple #[.string (str []), .int .i64 221] else .tuple #[.string (str ((d.vi.drop o).take m)), .int .i64 0]) := by
  obtain ⟨⟨hl, h1, h4, hlf⟩, ⟨hvi, hin⟩, v, pv, sv, sp, hr, hp, rfl⟩ := hR
  obtain ⟨off, left, du, vi, pend⟩ := d
  simp only at *
  cases off with
  | true =>
    refine does_mono (does_frame (rread_off rp v pv (.int .i64 (left : Int)) o m) [sv ++ sp] (by simp)) ?_
    rintro r _ ⟨H2, ⟨rfl, rfl⟩, rfl⟩
    exact ⟨_, ⟨rfl, rfl⟩, by simp⟩
  | false =>
    refine does_mono (does_flat (by simp) (rread_on rp left hr hp hin (by omega) (by omega) hk o m (by omega) (by omega))) ?_
    rintro r _ ⟨rfl, rfl⟩
    rw [← hvi]
    exact ⟨_, ⟨rfl, rfl⟩, by simp⟩
theorem rd_vis (d : DiskS) (rp : Nat) (s : List Chunk) (hR : RdR d rp s) (hk : d.pend.length ≤ 1000000) :
    Does Tryz.prog 21 #[.pointer (some ⟨rp, 0, none⟩)] [s] (fun r H' => ∃ s2, Row 5 r (d.vi.map u8v) s2 ∧ H' = [s, s2]) := by
  obtain ⟨⟨hl, h1, h4, hlf⟩, ⟨hvi, hin⟩, v, pv, sv, sp, hr, hp, rfl⟩ := hR
  refine does_mono (does_flat (by simp) (rvis_spec d.off rp d.left hr hp hin (by omega) (by omega) hk)) ?_
  rintro r _ ⟨s2, hr2, rfl⟩
  rw [← hvi] at hr2
  exact ⟨_, ⟨s2, hr2, rfl⟩, by simp⟩
theorem rd_new (n : Nat) (h1 : 1 ≤ n) (h2 : n ≤ 4194304) : Does Tryz.prog 32 #[.int .i64 (n : Int)] [] (fun r H' => ∃ rp s, r = .tuple #[.pointer (some ⟨rp, 0, none⟩), .int .i64 0] ∧ RdR (DiskS.new n) rp s ∧ H' = [s]) := by
  refine does_mono (rnew_spec n h1 h2) ?_
  rintro r _ ⟨rp, bs, rfl, rfl⟩
  have e : List.replicate n (Value.int .u8 0) = (List.replicate n (0 : UInt8)).map u8v := by simp [u8v]
  rw [e]
  refine ⟨_, ⟨rp, _, rfl, ⟨⟨rfl, by simp [DiskS.new]; omega, by simp [DiskS.new]; omega, Nat.zero_le _⟩, coh_new n, .slice (some ⟨bs, 0, none⟩) n n, .slice none 0 0, [(bs, .cells ((List.replicate n (0 : UInt8)).map u8v).toArray 5 (0, 0))], [], ?_, rowS_nil 2 _, rfl⟩, rfl⟩, rfl⟩
  show Row _ _ ((List.replicate n (0 : UInt8)).map u8v) _
  have := row_new 5 bs ((List.replicate n (0 : UInt8)).map u8v) n (by simp) (by have : maxLen = 9223372036854775807 := rfl; omega)
  exact this

end Go.Proofs.YtdahnapibeepkaaGreatDoor
