/- Cut on both sides; the invariant of a journal, its disk and their references. JournalMatchesReference: a call on both. -/
import Derived.Test.YthbadolcncojbaaGreatDoorEz
import Derived.Test.YthbadolcncojbaaGreatDoorEx13
import Derived.Test.YthbadolcncojbaaGreatDoorCr3

namespace Go.Proofs.YthbadolcncojbaaGreatDoor
open Go.Proofs.Tryz
open Go Go.RowKit Gw
set_option linter.unusedVariables false
set_option maxRecDepth 100000
attribute [local irreducible] Gw.At Gw.Nx Gw.Ops
theorem cut_off (dp left bd bv n : Nat) (pv : Value) (Td : TypeId) (m : Int) : DoesR Tryz.prog 34 #[.pointer (some ⟨dp, 0, none⟩), .int .i64 m] [[(dp, .cells (dkc true left bd bv n pv) Td (0, 0))]] (.int .i64 221) := by
 refine spec_enter func34 rfl ntmps34 rfl ?_
 intro u R
 refine Zb [0, 1] ?_
 refine Zq <| Zg <| Za Y <| Z0 <| Zx <| Zq <| Zq <| Zg <| Zm Y <| Zr [_] Y call61 Y rfl (check_off _ _ _ _ _ _ _) ?_
 rintro _ _ ⟨rfl, rfl⟩
 refine Za Y <| Z0 <| Zx <| Zq <| Zg <| Zm Y ?_
 first | refine op_v (p_neq_nat (n := 0) Y Y) ?_ | refine op_v (p_neq Y Y) ?_
 refine Z0 <| Zx ?_
 first | refine at_if Y (fun hc1 => ?_) (fun hc1 => ?_) | refine at_if_bool Y (fun hc1 => ?_) (fun hc1 => ?_)
 ·
  refine Zq <| Zg <| Zm Y <| Za Y <| Z0 <| Zx <| at_ret <| Zt ?_
  refine nx_end1 rfl results34 Y (by exact ⟨rfl, rfl⟩)
 ·
  exact absurd (by decide) hc1

theorem rcut_on (rp m : Nat) (v pv lv : Value) : Does Tryz.prog 75 #[.pointer (some ⟨rp, 0, none⟩), .int .i64 (m : Int)] [[(rp, .cells #[v, pv, .bool false, lv] 136 (0, 0))]] (fun r H' => r = .int .i64 0 ∧ H' = [[(rp, .cells #[v, pv, .bool (decide (m = 0)), .int .i64 (m : Int)] 136 (0, 0))]]) := by
 refine spec_enter func75 rfl ntmps75 rfl ?_
 intro u R
 refine Zb [0, 1] ?_
 refine Zq <| Zg <| Za Y <| Z0 <| Zx <| Zq <| Zq <| Zg <| Zm Y <| Zp Y rfl <| Zh 2 underlying136 rfl rfl sizeOf4 Y <| Zl isAgg4 Y ?_
 refine Z0 <| Zx ?_
 refine at_if_bool Y (fun hc1 => ?_) (fun hc1 => ?_)
 ·
  cases hc1
 ·
  refine at_skip <| Zx <| Zq <| Zq <| Zg <| Zm Y ?_
  first | refine op_v (p_lss_nat (n := 0) Y Y) ?_ | refine op_v (p_lss Y Y) ?_
  refine Z0 <| Zx ?_
  first | refine at_if Y (fun hc2 => ?_) (fun hc2 => ?_) | refine at_if_bool Y (fun hc2 => ?_) (fun hc2 => ?_)
  ·
   exfalso; omega
  ·
   refine at_skip <| Zx <| Zq <| Zg <| Zm Y <| Zm Y <| Zp Y rfl <| Zh 3 underlying136 rfl rfl sizeOf3 Y <| Ze (Zs sizeOf3 Y Y rfl) ?_
   rintro _ _ ⟨rfl, rfl⟩
   refine Z0 <| Zx <| Zq <| Zg <| Zm Y <| Zm Y ?_
   first | refine op_v (p_eql_nat (n := 0) Y Y) ?_ | refine op_v (p_eql Y Y) ?_
   refine Zp Y rfl <| Zh 2 underlying136 rfl rfl sizeOf4 Y <| Ze (Zs sizeOf4 Y Y rfl) ?_
   rintro _ _ ⟨rfl, rfl⟩
   refine Z0 <| Zn [] ?_
   refine Zx <| Zq <| Zg <| Za Y <| Z0 <| Zx <| at_ret ?_
   refine nx_end1 rfl results75 Y (by exact ⟨rfl, rfl⟩)

theorem rcut_off (rp : Nat) (v pv lv : Value) (m : Int) : DoesR Tryz.prog 75 #[.pointer (some ⟨rp, 0, none⟩), .int .i64 m] [[(rp, .cells #[v, pv, .bool true, lv] 136 (0, 0))]] (.int .i64 221) := by
 refine spec_enter func75 rfl ntmps75 rfl ?_
 intro u R
 refine Zb [0, 1] ?_
 refine Zq <| Zg <| Za Y <| Z0 <| Zx <| Zq <| Zq <| Zg <| Zm Y <| Zp Y rfl <| Zh 2 underlying136 rfl rfl sizeOf4 Y <| Zl isAgg4 Y ?_
 refine Z0 <| Zx ?_
 refine at_if_bool Y (fun hc1 => ?_) (fun hc1 => ?_)
 ·
  refine Zq <| Zg <| Za Y <| Z0 <| Zx <| at_ret <| Zt ?_
  refine nx_end1 rfl results75 Y (by exact ⟨rfl, rfl⟩)
 ·
  cases hc1

theorem disk_cut_any (d : DiskS) (dp : Nat) (s : List Chunk) (hR : DiskR d dp s) (m : Nat) (hm : m ≤ 4194304) :
    Does Tryz.prog 34 #[.pointer (some ⟨dp, 0, none⟩), .int .i64 (m : Int)] [s] (fun r H' => ∃ s', H' = [s'] ∧ r = .int .i64 (d.cut m).1 ∧ DiskR (d.cut m).2 dp s') := by
  cases ho : d.off with
  | false => exact disk_cut d dp s hR ho m hm
  | true =>
    have e : d.cut m = (221, d) := by unfold DiskS.cut; rw [if_pos ho]
    rw [e]
    obtain ⟨hok, bd, bv, pv, sp, hr, rfl⟩ := hR
    rw [ho]
    refine does_mono (does_frame (cut_off dp d.left bd bv d.vi.length pv 103 m) [(bd, .cells (byc d.du) 5 (0, 0)) :: (bv, .cells (byc d.vi) 5 (0, 0)) :: sp] (by simp)) ?_
    rintro r _ ⟨H2, ⟨rfl, rfl⟩, rfl⟩
    exact ⟨[_], ⟨_, rfl, rfl, hok, bd, bv, pv, sp, hr, by rw [ho]⟩, by simp⟩
theorem rd_cut (d : DiskS) (rp : Nat) (s : List Chunk) (hR : RdR d rp s) (m : Nat) (hm : m ≤ 4194304) :
    Does Tryz.prog 75 #[.pointer (some ⟨rp, 0, none⟩), .int .i64 (m : Int)] [s] (fun r H' => ∃ s', H' = [s'] ∧ r = .int .i64 (d.cut m).1 ∧ RdR (d.cut m).2 rp s') := by
  obtain ⟨hok, hco, v, pv, sv, sp, hr, hp, rfl⟩ := hR
  have hco' := coh_cut hco m
  cases ho : d.off with
  | false =>
    refine does_mono (does_frame (rcut_on rp m v pv (.int .i64 (d.left : Int))) [sv ++ sp] (by simp)) ?_
    rintro r _ ⟨H2, ⟨rfl, rfl⟩, rfl⟩
    have e : d.cut m = (0, { d with off := decide (m = 0), left := m }) := by unfold DiskS.cut; rw [if_neg (by rw [ho]; simp)]
    rw [e] at hco' ⊢
    exact ⟨[_], ⟨_, rfl, rfl, ⟨hok.1, hok.2.1, hok.2.2.1, hm⟩, hco', v, pv, sv, sp, hr, hp, rfl⟩, by simp⟩
  | true =>
    have e : d.cut m = (221, d) := by unfold DiskS.cut; rw [if_pos ho]
    rw [e]
    refine does_mono (does_frame (rcut_off rp v pv (.int .i64 (d.left : Int)) m) [sv ++ sp] (by simp)) ?_
    rintro r _ ⟨H2, ⟨rfl, rfl⟩, rfl⟩
    exact ⟨[_], ⟨_, rfl, rfl, hok, hco, v, pv, sv, sp, hr, hp, by rw [ho]⟩, by simp⟩
/-- The pending writes lie on the disk. -/
def PendIn (d : DiskS) (n : Nat) : Prop := ∀ p ∈ d.pend, p.1 + p.2.length ≤ n ∧ p.1 < n
theorem write_in {d : DiskS} {n : Nat} (h : PendIn d n) (o : Nat) (s : List UInt8) (h1 : o + s.length ≤ n) (h2 : o < n) : PendIn (d.write o s).2 n := by
  unfold DiskS.write
  split
  · exact h
  · intro p hp
    rcases List.mem_append.1 hp with hp | hp
    · exact h p hp
    · rw [List.mem_singleton.1 hp]; exact ⟨h1, h2⟩
theorem sync_in {d : DiskS} {n : Nat} (h : PendIn d n) : PendIn d.sync.2 n := by
  unfold DiskS.sync
  split
  · exact h
  · intro p hp; cases hp
theorem sync_zero {d : DiskS} (h : d.sync.1 = 0) : d.sync.2.pend = [] := by
  unfold DiskS.sync at *
  split
  · rename_i ho; rw [if_pos ho] at h; exact absurd h (by show ¬ (221 : Int) = 0; decide)
  · rfl
theorem app_keep (d : DiskS) (sz n k : Nat) (out : List UInt8) (hl : d.vi.length = n) (hp : d.pend.length ≤ k) (hi : PendIn d n) (hf : sz + out.length ≤ n) (h2 : 2 ≤ out.length) : (d.app sz out).2.vi.length = n ∧ (d.app sz out).2.pend.length ≤ k + 1 ∧ PendIn (d.app sz out).2 n := by
  have a1 := write_len d (sz + 1) out.tail (by rw [List.length_tail]; omega)
  have a2 := write_pend d (sz + 1) out.tail
  have a3 := write_in hi (sz + 1) out.tail (by rw [List.length_tail]; omega) (by omega)
  unfold DiskS.app
  simp only
  split
  · exact ⟨by omega, by omega, a3⟩
  · generalize (d.write (sz + 1) out.tail).2 = d1 at *
    have b1 := sync_len d1
    have b2 := sync_pend d1
    have b3 := sync_in a3
    split
    · exact ⟨by omega, by omega, b3⟩
    · rename_i hz
      have b4 := sync_zero (Classical.not_not.1 hz)
      generalize d1.sync.2 = d2 at *
      have c1 := write_len d2 sz (out.take 1) (by rw [List.length_take]; omega)
      have c2 := write_pend d2 sz (out.take 1)
      have c3 := write_in b3 sz (out.take 1) (by rw [List.length_take]; omega) (by omega)
      rw [b4, List.length_nil] at c2
      split
      · exact ⟨by omega, by omega, c3⟩
      · generalize (d2.write sz (out.take 1)).2 = d3 at *
        have e1 := sync_len d3
        have e2 := sync_pend d3
        exact ⟨by omega, by omega, sync_in c3⟩
/-- The world's plain state is in order. -/
structure Wok (n k : Nat) (d : DiskS) (jo : Option JrS) : Prop where
  len : d.vi.length = n
  pend : d.pend.length ≤ k
  inr : PendIn d n
  jr : ∀ j, jo = some j → j.sz ≤ n ∧ j.rs.length ≤ j.sz
theorem Wok.cut {n k : Nat} {d : DiskS} {jo : Option JrS} (h : Wok n k d jo) (m : Nat) : Wok n (k + 1) (d.cut m).2 jo := by
  unfold DiskS.cut
  split <;> exact ⟨h.len, Nat.le_succ_of_le h.pend, h.inr, h.jr⟩
theorem Wok.crash {n k : Nat} {d : DiskS} {jo : Option JrS} (h : Wok n k d jo) (hd : d.du.length = d.vi.length) (zs : List Int) (torn : Int) : Wok n 0 (d.crash zs torn) none := by
  have hti := torn_in (torn := torn) (fun p (hp : p ∈ keptW d.pend zs) => by have := (h.inr p (keptW_in hp)).1; rw [← h.len, ← hd] at this; exact this)
  exact ⟨by show (vis d.du (tornL torn (keptW d.pend zs))).length = n; rw [vis_len _ _ hti, hd, h.len], Nat.le_refl _, (by intro p hp; cases hp), fun j hj => by cases hj⟩
theorem load_rs {s : List UInt8} : ∀ (f : Nat) (rs : List (List UInt8)) (h : List UInt8) (sz : Nat) (rs' : List (List UInt8)) (h' : List UInt8) (sz' : Nat), loadL s f rs h sz = some (rs', h', sz') → rs.length ≤ sz → rs'.length ≤ sz'
  | 0, rs, h, sz, rs', h', sz', hl, hz => by
    simp only [loadL, Option.some.injEq, Prod.mk.injEq] at hl
    obtain ⟨rfl, _, rfl⟩ := hl; exact hz
  | f + 1, rs, h, sz, rs', h', sz', hl, hz => by
    rw [loadL] at hl
    split at hl
    · simp only [Option.some.injEq, Prod.mk.injEq] at hl; obtain ⟨rfl, _, rfl⟩ := hl; exact hz
    · split at hl
      · simp only [Option.some.injEq, Prod.mk.injEq] at hl; obtain ⟨rfl, _, rfl⟩ := hl; exact hz
      · split at hl
        · split at hl
          · cases hl
          · split at hl
            · exact load_rs f _ _ _ rs' h' sz' hl (by rw [List.length_append, List.length_singleton]; simp only [recS, List.length_cons, List.length_append]; omega)
            · cases hl
        · cases hl
theorem Wok.open {n k : Nat} {d : DiskS} {jo : Option JrS} (h : Wok n k d jo) (hn : 1 ≤ n) : Wok n (k + 1) d.openJ.2.2 d.openJ.2.1 := by
  have hk := openJ_keep d
  refine ⟨by rw [hk.1]; exact h.len, by have := hk.2.1; have := h.pend; omega, ?_, ?_⟩
  · unfold DiskS.openJ
    split
    · exact h.inr
    · split
      · exact h.inr
      · rename_i rs hh sz hl
        split
        · exact h.inr
        · rename_i hne
          have hz : sz < d.vi.length := by
            have h1 := load_sz _ _ _ _ _ _ _ hl (Nat.zero_le _)
            rcases Nat.lt_or_ge sz d.vi.length with h9 | h9
            · exact h9
            · exact absurd (by rw [List.drop_of_length_le h9, show d.vi.length - sz = 0 by omega]; rfl) hne
          have hzi : PendIn (d.zero sz).2 n := by
            have h1 := write_in h.inr sz (List.replicate (d.vi.length - sz) 0) (by rw [List.length_replicate, ← h.len]; omega) (by rw [← h.len]; exact hz)
            unfold DiskS.zero
            simp only
            split
            · exact h1
            · exact sync_in h1
          split <;> exact hzi
  · intro j hj
    have h1 := hk.2.2.1 j hj
    rw [h.len] at h1
    refine ⟨h1.2, ?_⟩
    unfold DiskS.openJ at hj
    split at hj
    · cases hj
    · split at hj
      · cases hj
      · rename_i rs hh sz hl
        have hr := load_rs _ _ _ _ _ _ _ hl (Nat.zero_le _)
        split at hj
        · cases hj; exact hr
        · split at hj
          · cases hj; exact hr
          · cases hj
theorem out_count : ∀ (ls : List (List UInt8)) (h : List UInt8), ls.length ≤ (outL h ls).length
  | [], h => by simp [outL]
  | x :: t, h => by
    have := out_count t (chainS h x)
    simp only [outL, List.length_append, List.length_cons, recS]; omega
theorem Wok.append {n k : Nat} {d : DiskS} {j : JrS} (h : Wok n k d (some j)) (ls : List (List UInt8)) (hs : ∀ r ∈ ls, r.length ≤ 65536) : Wok n (k + 1) (j.append d ls).2.2 (some (j.append d ls).2.1) := by
  have hj := h.jr j rfl
  have same : Wok n (k + 1) d (some j) := ⟨h.len, Nat.le_succ_of_le h.pend, h.inr, h.jr⟩
  unfold JrS.append
  split
  · exact same
  split
  · exact same
  rename_i hf
  split
  · exact same
  rename_i hne
  have h2 := outL_two j.h ls hs hne
  have hk := app_keep d j.sz n k (outL j.h ls) h.len h.pend h.inr (by rw [← h.len]; omega) h2
  split
  · exact ⟨hk.1, hk.2.1, hk.2.2, fun j' hj' => by cases hj'; exact hj⟩
  · refine ⟨hk.1, hk.2.1, hk.2.2, fun j' hj' => ?_⟩
    cases hj'
    have := out_count ls j.h
    exact ⟨by show j.sz + (outL j.h ls).length ≤ n; rw [← h.len]; omega, by show (j.rs ++ ls).length ≤ j.sz + (outL j.h ls).length; rw [List.length_append]; omega⟩
theorem jr_app_any (j : JrS) (d : DiskS) (jp dp : Nat) (sj sl sd : List Chunk) (v : Value) (ls : List (List UInt8)) (Tg : TypeId) (zg : Nat × Nat) {n k : Nat} (hW : Wok n k d (some j)) (hn : n ≤ 4194304) (hJ : JrR j jp dp sj) (hR : DiskR d dp sd) (hl : Row 9 v (ls.map strV) sl) (hk : k ≤ 999990) (hls : ls.length ≤ 1000000) (hs : ∀ r ∈ ls, r.length ≤ 65536) :
    Does Tryz.prog 13 #[.pointer (some ⟨jp, 0, none⟩), v] [sj, sl, sd, [(4, .cells (kTab.map u32v).toArray Tg zg)]] (fun r H' => ∃ sj' sd', r = .int .i64 (j.append d ls).1 ∧ JrR (j.append d ls).2.1 jp dp sj' ∧ DiskR (j.append d ls).2.2 dp sd' ∧ H' = [sj', sl, sd', [(4, .cells (kTab.map u32v).toArray Tg zg)]]) := by
  cases hbr : j.br with
  | true =>
    have e : j.append d ls = (230, j, d) := by unfold JrS.append; rw [if_pos (.inl hbr)]
    rw [e]
    refine does_mono (does_frame (jr_broken j jp dp sj v hJ hbr) [sl, sd, [(4, .cells (kTab.map u32v).toArray Tg zg)]] (by simp)) ?_
    rintro r _ ⟨H2, ⟨rfl, rfl⟩, rfl⟩
    exact ⟨_, ⟨sj, sd, rfl, hJ, hR, rfl⟩, by simp⟩
  | false =>
    have hj := hW.jr j rfl
    have hb := (hW.append ls hs).jr _ rfl
    exact jr_appendR j d jp dp sj sl sd v ls Tg zg hJ hR hl hbr (by rw [hW.len]; exact hj.1) (by have := hW.pend; omega) hls hs (by omega)
theorem kr_app_any (j : JrS) (d : DiskS) (kp rp : Nat) (sk sl sd : List Chunk) (v : Value) (ls : List (List UInt8)) {n k : Nat} (hW : Wok n k d (some j)) (hn : n ≤ 4194304) (hK : KrR j kp rp sk) (hR : RdR d rp sd) (hl : Row 9 v (ls.map strV) sl) (hk : k ≤ 999990) (hls : ls.length ≤ 1000000) (hs : ∀ r ∈ ls, r.length ≤ 65536) :
    Does Tryz.prog 63 #[.pointer (some ⟨kp, 0, none⟩), v] [sk, sl, sd] (fun r H' => ∃ sk' sd', r = .int .i64 (j.append d ls).1 ∧ KrR (j.append d ls).2.1 kp rp sk' ∧ RdR (j.append d ls).2.2 rp sd' ∧ H' = [sk', sl, sd']) := by
  have hj := hW.jr j rfl
  cases hbr : j.br with
  | true =>
    have e : j.append d ls = (230, j, d) := by unfold JrS.append; rw [if_pos (.inl hbr)]
    rw [e]
    obtain ⟨hh, hkn, hks, v0, sr, hrow, rfl⟩ := hK
    rw [hbr]
    refine does_mono (does_frame (rappend_broken kp rp v0 (.int .i64 (j.sz : Int)) v) [sr, sl, sd] (by simp)) ?_
    rintro r _ ⟨H2, ⟨rfl, rfl⟩, rfl⟩
    exact ⟨_, ⟨_, sd, rfl, ⟨hh, hkn, hks, v0, sr, hrow, by rw [hbr]⟩, hR, rfl⟩, by simp⟩
  | false =>
    have hb := (hW.append ls hs).jr _ rfl
    exact kr_append j d kp rp sk sl sd v ls hK hR hl hbr (by rw [hW.len]; exact hj.1) (by have := hW.pend; omega) hls hs (by omega)

end Go.Proofs.YthbadolcncojbaaGreatDoor
