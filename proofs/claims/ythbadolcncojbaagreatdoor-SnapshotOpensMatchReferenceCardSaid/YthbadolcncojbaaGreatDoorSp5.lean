/- A store over its plain states. -/
import Derived.Test.YthbadolcncojbaaGreatDoorSp4
namespace Go.Proofs.YthbadolcncojbaaGreatDoor
open Go Go.RowKit Gw
set_option linter.unusedVariables false
set_option maxRecDepth 100000
attribute [local irreducible] Gw.At Gw.Nx Gw.Ops
theorem psw {A B X : List Chunk} : (A ++ (B ++ X)).Perm (B ++ (A ++ X)) := by
  rw [← List.append_assoc, ← List.append_assoc]
  exact List.Perm.append_right _ List.perm_append_comm
theorem SnOk.len {s : SnS} (hS : SnOk s) {sp c ca o oa : Nat} {ss sc so sca soa : List Chunk} (hR : SnR s sp c ca o oa ss sc so sca soa) : s.its.length ≤ 4194303 := by
  have h := hR.1.2.1
  rw [hS.rs] at h
  unfold recsOf at h
  simp at h
  omega
theorem sn_append_sub (s : SnS) (sp c ca o oa : Nat) (ss sc so sca soa sl : List Chunk) (vl : Value) (ls : List (List UInt8)) (Tg : TypeId) (zg : Nat × Nat) (hS : SnOk s) (hR : SnR s sp c ca o oa ss sc so sca soa) (hl : SubV vl (ls.map strV) sl) (hn : ls.length ≤ 1000000) (hb : ls.any isBig = false) :
    Does Tryz.prog 38 #[.pointer (some ⟨sp, 0, none⟩), vl] [ss, sc, sca, sl, [(4, .cells (kTab.map u32v).toArray Tg zg)]] (fun r H' => ∃ (e : Int) (s' : SnS) (ss' sc' sca' : List Chunk), r = .int .i64 e ∧ SnOk s' ∧ s'.gen = s.gen ∧ s'.oth = s.oth ∧ s'.od = s.od ∧ s'.cd.vi.length = s.cd.vi.length ∧
      ((s.cd.vi.length < s.cur.sz + (outL s.cur.h (ls.map itm)).length ∧ e = 231 ∧ s' = s) ∨ (s.cur.sz + (outL s.cur.h (ls.map itm)).length ≤ s.cd.vi.length ∧ e = 0 ∧ s'.its = s.its ++ ls ∧ s'.cur.sz = s.cur.sz + (outL s.cur.h (ls.map itm)).length)) ∧
      SnR s' sp c ca o oa ss' sc' so sca' soa ∧ H' = [ss', sc', sca', sl, [(4, .cells (kTab.map u32v).toArray Tg zg)]]) := by
  have hlen := hS.len hR
  obtain ⟨h1, h2, h3, h4, v, sr, hrow, rfl⟩ := hR
  refine does_mono (does_flat (by simp) (sappend_spec sp c ca o oa s.gen v vl s.its ls sr sl sc sca s.cur s.cd Tg zg hrow hl (by omega) hn hb hS.hc h1 h3)) ?_
  rintro r _ ⟨e, j1, d1, v', sr', sc', sca', rfl, g1, g2, ho, g3, g4, rfl⟩
  rcases ho with ⟨q1, q2, q3, q4, rfl, rfl⟩ | ⟨q1, q2, q3, q4, q5⟩
  · subst q3 q4
    exact ⟨_, ⟨e, s, _, sc', sca', rfl, hS, rfl, rfl, rfl, rfl, .inl ⟨q1, q2, rfl⟩, ⟨g3, h2, g4, h4, v', sr', hrow, rfl⟩, rfl⟩, by simp⟩
  · refine ⟨_, ⟨e, ⟨j1, s.oth, d1, s.od, s.gen, s.its ++ ls⟩, _, sc', sca', rfl, ⟨g1, hS.ho, ?_, ?_, hS.g1, hS.g2, hS.oth⟩, rfl, rfl, rfl, g2, .inr ⟨q1, q2, rfl, q4⟩, ⟨g3, h2, g4, h4, v', sr', q5, rfl⟩, rfl⟩, by simp⟩
    · show j1.rs = recsOf s.gen (s.its ++ ls)
      rw [q3, hS.rs]; unfold recsOf; simp
    · intro r hr
      rcases List.mem_append.1 hr with h | h
      · exact hS.sh r h
      · exact big_none hb r h
theorem sn_append (s : SnS) (sp c ca o oa : Nat) (ss sc so sca soa sl : List Chunk) (vl : Value) (ls : List (List UInt8)) (Tg : TypeId) (zg : Nat × Nat) (hS : SnOk s) (hR : SnR s sp c ca o oa ss sc so sca soa) (hl : Row 9 vl (ls.map strV) sl) (hn : ls.length ≤ 1000000) (hb : ls.any isBig = false) :
    Does Tryz.prog 38 #[.pointer (some ⟨sp, 0, none⟩), vl] [ss, sc, sca, sl, [(4, .cells (kTab.map u32v).toArray Tg zg)]] (fun r H' => ∃ (e : Int) (s' : SnS) (ss' sc' sca' : List Chunk), r = .int .i64 e ∧ SnOk s' ∧ s'.gen = s.gen ∧ s'.oth = s.oth ∧ s'.od = s.od ∧ s'.cd.vi.length = s.cd.vi.length ∧
      ((s.cd.vi.length < s.cur.sz + (outL s.cur.h (ls.map itm)).length ∧ e = 231 ∧ s' = s) ∨ (s.cur.sz + (outL s.cur.h (ls.map itm)).length ≤ s.cd.vi.length ∧ e = 0 ∧ s'.its = s.its ++ ls ∧ s'.cur.sz = s.cur.sz + (outL s.cur.h (ls.map itm)).length)) ∧
      SnR s' sp c ca o oa ss' sc' so sca' soa ∧ H' = [ss', sc', sca', sl, [(4, .cells (kTab.map u32v).toArray Tg zg)]]) :=
  sn_append_sub s sp c ca o oa ss sc so sca soa sl vl ls Tg zg hS hR (row_sub hl) hn hb
theorem sn_compact (s : SnS) (sp c ca o oa : Nat) (ss sc so sca soa sl : List Chunk) (vl : Value) (ls : List (List UInt8)) (pa : Addr) (Tx Tg : TypeId) (zx zg : Nat × Nat) (hS : SnOk s) (hR : SnR s sp c ca o oa ss sc so sca soa) (hl : Row 9 vl (ls.map strV) sl) (hn : ls.length ≤ 900000) (hb : ls.any isBig = false) (hg : s.gen < 1000000000) :
    Does Tryz.prog 36 #[.pointer (some ⟨sp, 0, none⟩), vl] [ss, so, soa, sl, [(4, .cells (kTab.map u32v).toArray Tg zg)], [(0, .cells #[.iface 299 (.pointer (some pa))] Tx zx)]] (fun r H' => ∃ (e : Int) (s' : SnS) (np : Nat) (ss' so' soa' : List Chunk), r = .int .i64 e ∧ SnOk s' ∧ H' = [ss', so', soa', sl, [(4, .cells (kTab.map u32v).toArray Tg zg)], [(0, .cells #[.iface 299 (.pointer (some pa))] Tx zx)]] ∧
      ((s.od.vi.length < (outL zero32 (recsOf (s.gen + 1) ls)).length ∧ e = 231 ∧ s'.gen = s.gen ∧ s'.its = s.its ∧ s'.cur = s.cur ∧ s'.cd = s.cd ∧ s'.od.vi.length = s.od.vi.length ∧ SnR s' sp c ca np oa ss' sc so' sca soa') ∨
       ((outL zero32 (recsOf (s.gen + 1) ls)).length ≤ s.od.vi.length ∧ e = 0 ∧ s'.gen = s.gen + 1 ∧ s'.its = ls ∧ s'.cur.sz = (outL zero32 (recsOf (s.gen + 1) ls)).length ∧ s'.oth = s.cur ∧ s'.od = s.cd ∧ s'.cd.vi.length = s.od.vi.length ∧ SnR s' sp np oa c ca ss' so' sc soa' sca))) := by
  obtain ⟨h1, h2, h3, h4, v, sr, hrow, rfl⟩ := hR
  refine does_mono (does_flat (by simp) (scompact_spec sp c ca o oa s.gen v vl s.its ls sr sl so soa s.oth s.od pa Tx Tg zx zg hrow hl hn hb hg hS.ho h2 h4)) ?_
  rintro r _ ⟨e, j1, d1, np, so', soa', rfl, g1, g2, g3, g4, ⟨q1, q2, rfl, rfl⟩ | ⟨q1, q2, q3, q4, v', sr', q5, rfl⟩⟩
  · exact ⟨_, ⟨e, ⟨s.cur, j0, s.cd, d1, s.gen, s.its⟩, np, _, so', soa', rfl, ⟨hS.hc, g1, hS.rs, hS.sh, hS.g1, hS.g2, 0, [], .inl ⟨rfl, rfl, rfl⟩, hS.g1⟩, rfl, .inl ⟨q1, q2, rfl, rfl, rfl, rfl, g2, ⟨h1, g3, h3, g4, v, sr, hrow, rfl⟩⟩⟩, by simp⟩
  · exact ⟨_, ⟨e, ⟨j1, s.cur, d1, s.cd, s.gen + 1, ls⟩, np, _, so', soa', rfl, ⟨g1, hS.hc, q3, big_none hb, by show 1 ≤ s.gen + 1; omega, by show s.gen + 1 ≤ 1000000000; omega, s.gen, s.its, .inr ⟨hS.rs, hS.g1, hS.g2, hS.sh⟩, by show s.gen < s.gen + 1; omega⟩, rfl, .inr ⟨q1, q2, rfl, rfl, q4, rfl, rfl, g2, ⟨g3, h1, g4, h3, v', sr', q5, rfl⟩⟩⟩, by simp⟩
theorem sn_items (s : SnS) (sp c ca o oa : Nat) (ss sc so sca soa : List Chunk) (hS : SnOk s) (hR : SnR s sp c ca o oa ss sc so sca soa) :
    Does Tryz.prog 26 #[.pointer (some ⟨sp, 0, none⟩)] [ss] (fun r H' => ∃ sv, Row 9 r (s.its.map strV) sv ∧ H' = [ss, sv]) := by
  have hlen := hS.len hR
  obtain ⟨h1, h2, h3, h4, v, sr, hrow, rfl⟩ := hR
  refine does_mono (does_flat (by simp) (items_spec sp c ca o oa s.gen v s.its sr hrow (by omega))) ?_
  rintro r _ ⟨sv, h, rfl⟩
  exact ⟨_, ⟨sv, h, rfl⟩, by simp⟩
theorem sn_gen (s : SnS) (sp c ca o oa : Nat) (ss sc so sca soa : List Chunk) (hR : SnR s sp c ca o oa ss sc so sca soa) :
    DoesR Tryz.prog 27 #[.pointer (some ⟨sp, 0, none⟩)] [ss] (.int .i64 (s.gen : Int)) := by
  obtain ⟨h1, h2, h3, h4, v, sr, hrow, rfl⟩ := hR
  refine does_mono (does_frame (gen_spec sp c ca o oa s.gen v) [sr] (by simp)) ?_
  rintro r _ ⟨H2, ⟨rfl, rfl⟩, rfl⟩
  exact ⟨_, ⟨rfl, rfl⟩, by simp⟩
theorem sn_room (s : SnS) (sp c ca o oa : Nat) (ss sc so sca soa : List Chunk) (hS : SnOk s) (hR : SnR s sp c ca o oa ss sc so sca soa) :
    DoesR Tryz.prog 28 #[.pointer (some ⟨sp, 0, none⟩)] [ss, sc, sca] (.int .i64 ((s.cd.vi.length : Int) - (s.cur.sz : Int))) := by
  obtain ⟨h1, h2, h3, h4, v, sr, hrow, rfl⟩ := hR
  refine does_perm (does_frame (H := [[(sp, .cells #[.pointer (some ⟨c, 0, none⟩), .pointer (some ⟨ca, 0, none⟩), .pointer (some ⟨o, 0, none⟩), .pointer (some ⟨oa, 0, none⟩), .int .i64 (s.gen : Int), v, .int .i64 0] 150 (0, 0))], sc, sca, sr]) (sroom_spec sp c ca o oa s.gen v s.cur s.cd sc sca h1 h3 hS.hc.fit) [sr] rfl) ?_ ?_
  · simp only [List.flatten_cons, List.flatten_nil, List.append_nil, List.singleton_append, List.cons_append, List.nil_append]
    exact List.Perm.cons _ (by rw [← List.append_assoc sc]; exact List.perm_append_comm)
  · rintro r _ ⟨H2, ⟨rfl, rfl⟩, rfl⟩
    refine ⟨_, ⟨rfl, rfl⟩, ?_⟩
    simp only [List.flatten_cons, List.flatten_nil, List.flatten_append, List.append_nil, List.singleton_append, List.cons_append, List.nil_append]
    exact List.Perm.cons _ (by rw [← List.append_assoc sc]; exact List.perm_append_comm)
/-- A store on two new disks. -/
theorem sn_new (a b : Nat) (da db : DiskS) (sda sdb : List Chunk) (pa : Addr) (Tx Tg : TypeId) (zx zg : Nat × Nat) (hab : a ≠ b) (hDa : JD j0 da) (hDb : JD j0 db) (hRa : DiskR da a sda) (hRb : DiskR db b sdb) (hsz : 36 ≤ da.vi.length) :
    Does Tryz.prog 23 #[.pointer (some ⟨a, 0, none⟩), .pointer (some ⟨b, 0, none⟩)] [sda, sdb, [(4, .cells (kTab.map u32v).toArray Tg zg)], [(0, .cells #[.iface 299 (.pointer (some pa))] Tx zx)]] (fun r H' => ∃ (s : SnS) (sp c o : Nat) (ss sc so sda' : List Chunk), r = .tuple #[.pointer (some ⟨sp, 0, none⟩), .int .i64 0] ∧ SnOk s ∧ s.gen = 1 ∧ s.its = [] ∧ s.cur.sz = 36 ∧ s.cd.vi.length = da.vi.length ∧ s.od = db ∧ SnR s sp c a o b ss sc so sda' sdb ∧ H' = [ss, sc, so, sda', sdb, [(4, .cells (kTab.map u32v).toArray Tg zg)], [(0, .cells #[.iface 299 (.pointer (some pa))] Tx zx)]]) := by
  refine does_mono (open_new a b 0 0 j0 j0 da db sda sdb [] [] pa Tx Tg zx zg hab hDa hDb hRa hRb (.inl ⟨rfl, rfl, rfl⟩) (.inl ⟨rfl, rfl, rfl⟩) rfl rfl rfl hsz) ?_
  rintro r _ ⟨sp, ap, bp, v, sv, sja, sjb, j1, d1, sd1, rfl, g1, g2, g3, g4, g5, g6, g7, g8, rfl⟩
  exact ⟨_, ⟨⟨j1, j0, d1, db, 1, []⟩, sp, ap, bp, _, sja, sjb, sd1, rfl, ⟨g1, hDb, g3, by simp, Nat.le_refl _, by show 1 ≤ 1000000000; decide, 0, [], .inl ⟨rfl, rfl, rfl⟩, by show 0 < 1; decide⟩, rfl, rfl, g4, g2, rfl, ⟨g5, g7, g6, hRb, v, sv, g8, rfl⟩, rfl⟩, by simp⟩
/-- The disks of a store opened again. -/
theorem sn_reopen (s : SnS) (a b ca oa : Nat) (sca soa : List Chunk) (pa : Addr) (Tx Tg : TypeId) (zx zg : Nat × Nat) (hS : SnOk s) (hab : a ≠ b) (hor : (ca = a ∧ oa = b) ∨ (ca = b ∧ oa = a)) (hRc : DiskR s.cd ca sca) (hRo : DiskR s.od oa soa) :
    Does Tryz.prog 23 #[.pointer (some ⟨a, 0, none⟩), .pointer (some ⟨b, 0, none⟩)] [sca, soa, [(4, .cells (kTab.map u32v).toArray Tg zg)], [(0, .cells #[.iface 299 (.pointer (some pa))] Tx zx)]] (fun r H' => ∃ (sp c o : Nat) (ss sc so : List Chunk), r = .tuple #[.pointer (some ⟨sp, 0, none⟩), .int .i64 0] ∧ SnR s sp c ca o oa ss sc so sca soa ∧ H' = [ss, sc, so, sca, soa, [(4, .cells (kTab.map u32v).toArray Tg zg)], [(0, .cells #[.iface 299 (.pointer (some pa))] Tx zx)]]) := by
  obtain ⟨m, ib, hLo, hm⟩ := hS.oth
  have hLc : LstOk s.cur.rs s.gen s.its := .inr ⟨hS.rs, hS.g1, hS.g2, hS.sh⟩
  rcases hor with ⟨rfl, rfl⟩ | ⟨rfl, rfl⟩
  · refine does_mono (open_one ca oa s.gen m s.cur s.oth s.cd s.od sca soa s.its ib pa Tx Tg zx zg hab hS.hc hS.ho hRc hRo hLc hLo hm) ?_
    rintro r _ ⟨sp, ap, bp, v, sv, sja, sjb, rfl, g1, g2, g3, rfl⟩
    exact ⟨_, ⟨sp, ap, bp, _, sja, sjb, rfl, ⟨g1, g2, hRc, hRo, v, sv, g3, rfl⟩, rfl⟩, by simp⟩
  · refine does_perm (open_two oa ca m s.gen s.oth s.cur s.od s.cd soa sca ib s.its pa Tx Tg zx zg hab hS.ho hS.hc hRo hRc hLo hLc hm) ?_ ?_
    · simp only [List.flatten_cons, List.flatten_nil, List.append_nil]
      exact psw
    · rintro r _ ⟨sp, ap, bp, v, sv, sja, sjb, rfl, g1, g2, g3, rfl⟩
      refine ⟨_, ⟨sp, bp, ap, _, sjb, sja, rfl, ⟨g2, g1, hRc, hRo, v, sv, g3, rfl⟩, rfl⟩, ?_⟩
      simp only [List.flatten_cons, List.flatten_nil, List.append_nil, List.singleton_append, List.cons_append, List.nil_append]
      refine List.Perm.cons _ (List.Perm.append_left sv ?_)
      exact psw.trans (List.Perm.append_left sjb (List.Perm.append_left sja psw))

end Go.Proofs.YthbadolcncojbaaGreatDoor
