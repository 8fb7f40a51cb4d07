/- Cut on both sides; the invariant of a journal, its disk and their references. JournalMatchesReference: a call on both. -/
import Derived.Test.YtdahnapibeepkaaGreatDoorOa3
import Derived.Test.YtdahnapibeepkaaGreatDoorCr3
namespace Go.Proofs.YtdahnapibeepkaaGreatDoor
open Go Go.RowKit Gw
set_option linter.unusedVariables false
set_option maxRecDepth 100000
attribute [local irreducible] Gw.At Gw.Nx Gw.Ops
theorem cut_off (dp left bd bv n : Nat) (pv : Value) (Td : TypeId) (m : Int) : DoesR Tryz.prog 63 #[.pointer (some ⟨dp, 0, none⟩), .int .i64 m] [[(dp, .cells (dkc true left bd bv n pv) Td (0, 0))]] (.int .i64 221) := by
 refine spec_enter Tryz.func63 rfl Tryz.ntmps63 rfl ?_
 intro u R
 refine at_slots (env' := [(0, _), (1, _)]) [0, 1] rfl (fun _=>rfl) ?_
 refine at_seq ?_
 refine at_region ?_
 refine op_v (p_assign (fun _=>rfl)) ?_
 refine ops_nil ?_
 refine nx_next ?_
 refine at_seq ?_
 refine at_seq ?_
 refine at_region ?_
 refine op_v (p_move (fun _=>rfl)) ?_
 refine op_e (w_callR (vs := [_]) (fun _=>rfl) Tryz.call45 (fun _=>rfl) rfl (check_off _ _ _ _ _ _ _) (by repeat (first | exact Pull.nil _ | (apply Pull.cons; (focus (repeat (first | exact One.here _ _ | apply One.there))))))) (fun _=>rfl) rfl rfl ?_
 rintro _ _ ⟨rfl, rfl⟩
 refine op_v (p_assign (fun _=>rfl)) ?_
 refine ops_nil ?_
 refine nx_next ?_
 refine at_seq ?_
 refine at_region ?_
 refine op_v (p_move (fun _=>rfl)) ?_
 first | refine op_v (p_neq_nat (n := 0) (fun _=>rfl) (fun _=>rfl)) ?_ | refine op_v (p_neq (fun _=>rfl) (fun _=>rfl)) ?_
 refine ops_nil ?_
 refine nx_next ?_
 first | refine at_if (fun _=>rfl) (fun hc1 => ?_) (fun hc1 => ?_) | refine at_if_bool (fun _=>rfl) (fun hc1 => ?_) (fun hc1 => ?_)
 ·
  refine at_seq ?_
  refine at_region ?_
  refine op_v (p_move (fun _=>rfl)) ?_
  refine op_v (p_assign (fun _=>rfl)) ?_
  refine ops_nil ?_
  refine nx_next ?_
  refine at_ret ?_
  refine nx_thru (by intro h; cases h) ?_
  refine nx_end1 (H' := _) rfl Tryz.results63 (fun _=>rfl) (by exact ⟨rfl, rfl⟩)
 ·
  exact absurd (by decide) hc1

theorem rcut_on (rp m : Nat) (v pv lv : Value) : Does Tryz.prog 64 #[.pointer (some ⟨rp, 0, none⟩), .int .i64 (m : Int)] [[(rp, .cells #[v, pv, .bool false, lv] 77 (0, 0))]] (fun r H' => r = .int .i64 0 ∧ H' = [[(rp, .cells #[v, pv, .bool (decide (m = 0)), .int .i64 (m : Int)] 77 (0, 0))]]) := by
 refine spec_enter Tryz.func64 rfl Tryz.ntmps64 rfl ?_
 intro u R
 refine at_slots (env' := [(0, _), (1, _)]) [0, 1] rfl (fun _=>rfl) ?_
 refine at_seq ?_
 refine at_region ?_
 refine op_v (p_assign (fun _=>rfl)) ?_
 refine ops_nil ?_
 refine nx_next ?_
 refine at_seq ?_
 refine at_seq ?_
 refine at_region ?_
 refine op_v (p_move (fun _=>rfl)) ?_
 refine op_v (p_nilChk (fun _=>rfl) rfl) ?_
 refine op_v (p_fieldAddr0 (off := 2) Tryz.underlying77 rfl rfl Tryz.sizeOf4 (fun _=>rfl)) ?_
 refine op_r (by repeat (first | exact Has.here _ | apply Has.there)) (p_load Tryz.isAgg4 (fun _=>rfl) (by rfl)) rfl rfl ?_
 refine ops_nil ?_
 refine nx_next ?_
 refine at_if_bool (fun _=>rfl) (fun hc1 => ?_) (fun hc1 => ?_)
 ·
  cases hc1
 ·
  refine at_skip ?_
  refine nx_next ?_
  refine at_seq ?_
  refine at_seq ?_
  refine at_region ?_
  refine op_v (p_move (fun _=>rfl)) ?_
  first | refine op_v (p_lss_nat (n := 0) (fun _=>rfl) (fun _=>rfl)) ?_ | refine op_v (p_lss (fun _=>rfl) (fun _=>rfl)) ?_
  refine ops_nil ?_
  refine nx_next ?_
  first | refine at_if (fun _=>rfl) (fun hc2 => ?_) (fun hc2 => ?_) | refine at_if_bool (fun _=>rfl) (fun hc2 => ?_) (fun hc2 => ?_)
  ·
   exfalso; omega
  ·
   refine at_skip ?_
   refine nx_next ?_
   refine at_seq ?_
   refine at_region ?_
   refine op_v (p_move (fun _=>rfl)) ?_
   refine op_v (p_move (fun _=>rfl)) ?_
   refine op_v (p_nilChk (fun _=>rfl) rfl) ?_
   refine op_v (p_fieldAddr0 (off := 3) Tryz.underlying77 rfl rfl Tryz.sizeOf3 (fun _=>rfl)) ?_
   refine op_e (w_store Tryz.sizeOf3 (fun _=>rfl) (fun _=>rfl) rfl (by repeat (first | exact Upd.here _ | apply Upd.there)) (by rfl) (by first | decide | exact Nat.le_refl _ | (simp; done) | (simp; omega)) (by exact free_zero _)) (fun _=>rfl) rfl rfl ?_
   rintro _ _ ⟨rfl, rfl⟩
   refine ops_nil ?_
   refine nx_next ?_
   refine at_seq ?_
   refine at_region ?_
   refine op_v (p_move (fun _=>rfl)) ?_
   refine op_v (p_move (fun _=>rfl)) ?_
   first | refine op_v (p_eql_nat (n := 0) (fun _=>rfl) (fun _=>rfl)) ?_ | refine op_v (p_eql (fun _=>rfl) (fun _=>rfl)) ?_
   refine op_v (p_nilChk (fun _=>rfl) rfl) ?_
   refine op_v (p_fieldAddr0 (off := 2) Tryz.underlying77 rfl rfl Tryz.sizeOf4 (fun _=>rfl)) ?_
   refine op_e (w_store Tryz.sizeOf4 (fun _=>rfl) (fun _=>rfl) rfl (by repeat (first | exact Upd.here _ | apply Upd.there)) (by rfl) (by first | decide | exact Nat.le_refl _ | (simp; done) | (simp; omega)) (by exact free_zero _)) (fun _=>rfl) rfl rfl ?_
   rintro _ _ ⟨rfl, rfl⟩
   refine ops_nil ?_
   refine nx_slots (env' := []) [] rfl (fun _=>rfl) ?_
   refine nx_next ?_
   refine at_seq ?_
   refine at_region ?_
   refine op_v (p_assign (fun _=>rfl)) ?_
   refine ops_nil ?_
   refine nx_next ?_
   refine at_ret ?_
   refine nx_end1 (H' := _) rfl Tryz.results64 (fun _=>rfl) (by exact ⟨rfl, rfl⟩)

theorem rcut_off (rp : Nat) (v pv lv : Value) (m : Int) : DoesR Tryz.prog 64 #[.pointer (some ⟨rp, 0, none⟩), .int .i64 m] [[(rp, .cells #[v, pv, .bool true, lv] 77 (0, 0))]] (.int .i64 221) := by
 refine spec_enter Tryz.func64 rfl Tryz.ntmps64 rfl ?_
 intro u R
 refine at_slots (env' := [(0, _), (1, _)]) [0, 1] rfl (fun _=>rfl) ?_
 refine at_seq ?_
 refine at_region ?_
 refine op_v (p_assign (fun _=>rfl)) ?_
 refine ops_nil ?_
 refine nx_next ?_
 refine at_seq ?_
 refine at_seq ?_
 refine at_region ?_
 refine op_v (p_move (fun _=>rfl)) ?_
 refine op_v (p_nilChk (fun _=>rfl) rfl) ?_
 refine op_v (p_fieldAddr0 (off := 2) Tryz.underlying77 rfl rfl Tryz.sizeOf4 (fun _=>rfl)) ?_
 refine op_r (by repeat (first | exact Has.here _ | apply Has.there)) (p_load Tryz.isAgg4 (fun _=>rfl) (by rfl)) rfl rfl ?_
 refine ops_nil ?_
 refine nx_next ?_
 refine at_if_bool (fun _=>rfl) (fun hc1 => ?_) (fun hc1 => ?_)
 ·
  refine at_seq ?_
  refine at_region ?_
  refine op_v (p_assign (fun _=>rfl)) ?_
  refine ops_nil ?_
  refine nx_next ?_
  refine at_ret ?_
  refine nx_thru (by intro h; cases h) ?_
  refine nx_end1 (H' := _) rfl Tryz.results64 (fun _=>rfl) (by exact ⟨rfl, rfl⟩)
 ·
  cases hc1

theorem disk_cut_any (d : DiskS) (dp : Nat) (s : List Chunk) (hR : DiskR d dp s) (m : Nat) (hm : m ≤ 4194304) :
    Does Tryz.prog 63 #[.pointer (some ⟨dp, 0, none⟩), .int .i64 (m : Int)] [s] (fun r H' => ∃ s', H' = [s'] ∧ r = .int .i64 (d.cut m).1 ∧ DiskR (d.cut m).2 dp s') := by
  cases ho : d.off with
  | false => exact disk_cut d dp s hR ho m hm
  | true =>
    have e : d.cut m = (221, d) := by unfold DiskS.cut; rw [if_pos ho]
    rw [e]
    obtain ⟨hok, bd, bv, pv, sp, hr, rfl⟩ := hR
    rw [ho]
    refine does_mono (does_frame (cut_off dp d.left bd bv d.vi.length pv 109 m) [(bd, .cells (byc d.du) 5 (0, 0)) :: (bv, .cells (byc d.vi) 5 (0, 0)) :: sp] (by simp)) ?_
    rintro r _ ⟨H2, ⟨rfl, rfl⟩, rfl⟩
    exact ⟨[_], ⟨_, rfl, rfl, hok, bd, bv, pv, sp, hr, by rw [ho]⟩, by simp⟩
theorem rd_cut (d : DiskS) (rp : Nat) (s : List Chunk) (hR : RdR d rp s) (m : Nat) (hm : m ≤ 4194304) :
    Does Tryz.prog 64 #[.pointer (some ⟨rp, 0, none⟩), .int .i64 (m : Int)] [s] (fun r H' => ∃ s', H' = [s'] ∧ r = .int .i64 (d.cut m).1 ∧ RdR (d.cut m).2 rp s') := by
  obtain ⟨hok, hco, v, pv, sv, sp, hr, hp, rfl⟩ := hR
  have hco' := coh_cut hco m
  cases ho : d.off with
  | false =>
    refine does_mono (does_frame (rcut_on rp m v pv (.int .i64 (d.left : Int))) [sv ++ sp] (by simp)) ?_
    rintro r _ ⟨H2, ⟨rfl, rfl⟩, rfl⟩
    have e : d.cut m = (0, { d with off := decide (m = 0), left := m }) := by unfold DiskS.cut; rw [if_neg (by rw [ho]; simp)]
    rw [e] at hco' ⊢
    exact ⟨[_], ⟨_, rfl, rfl, ⟨hok.1, hok.2.1, hok.2.2.1, hm⟩, hco', v, pv, sv, sp, hr, hp, rfl⟩, by simp⟩
  | true =>
    have e : d.cut m = (221, d) := by unfold DiskS.cut; rw [if_pos ho]
    rw [e]
    refine does_mono (does_frame (rcut_off rp v pv (.int .i64 (d.left : Int)) m) [sv ++ sp] (by simp)) ?_
    rintro r _ ⟨H2, ⟨rfl, rfl⟩, rfl⟩
    exact ⟨[_], ⟨_, rfl, rfl, hok, hco, v, pv, sv, sp, hr, hp, by rw [ho]⟩, by simp⟩
/-- The pending writes lie on the disk. -/
def PendIn (d : DiskS) (n : Nat) : Prop := ∀ p ∈ d.pend, p.1 + p.2.length ≤ n ∧ p.1 < n
theorem write_in {d : DiskS} {n : Nat} (h : PendIn d n) (o : Nat) (s : List UInt8) (h1 : o + s.length ≤ n) (h2 : o < n) : PendIn (d.write o s).2 n := by
  unfold DiskS.write
  split
  · exact h
  · intro p hp
    rcases List.mem_append.1 hp with hp | hp
    · exact h p hp
    · rw [List.mem_singleton.1 hp]; exact ⟨h1, h2⟩
theorem sync_in {d : DiskS} {n : Nat} (h : PendIn d n) : PendIn d.sync.2 n := by
  unfold DiskS.sync
  split
  · exact h
  · intro p hp; cases hp
theorem sync_zero {d : DiskS} (h : d.sync.1 = 0) : d.sync.2.pend = [] := by
  unfold DiskS.sync at *
  split
  · rename_i ho; rw [if_pos ho] at h; exact absurd h (by show ¬ (221 : Int) = 0; decide)
  · rfl
theorem app_keep (d : DiskS) (sz n k : Nat) (out : List UInt8) (hl : d.vi.length = n) (hp : d.pend.length ≤ k) (hi : PendIn d n) (hf : sz + out.length ≤ n) (h2 : 2 ≤ out.length) : (d.app sz out).2.vi.length = n ∧ (d.app sz out).2.pend.length ≤ k + 1 ∧ PendIn (d.app sz out).2 n := by
  have a1 := write_len d (sz + 1) out.tail (by rw [List.length_tail]; omega)
  have a2 := write_pend d (sz + 1) out.tail
  have a3 := write_in hi (sz + 1) out.tail (by rw [List.length_tail]; omega) (by omega)
  unfold DiskS.app
  simp only
  split
  · exact ⟨by omega, by omega, a3⟩
  · generalize (d.write (sz + 1) out.tail).2 = d1 at *
    have b1 := sync_len d1
    have b2 := sync_pend d1
    have b3 := sync_in a3
    split
    · exact ⟨by omega, by omega, b3⟩
    · rename_i hz
      have b4 := sync_zero (Classical.not_not.1 hz)
      generalize d1.sync.2 = d2 at *
      have c1 := write_len d2 sz (out.take 1) (by rw [List.length_take]; omega)
      have c2 := write_pend d2 sz (out.take 1)
      have c3 := write_in b3 sz (out.take 1) (by rw [List.length_take]; omega) (by omega)
      rw [b4, List.length_nil] at c2
      split
      · exact ⟨by omega, by omega, c3⟩
      · generalize (d2.write sz (out.take 1)).2 = d3 at *
        have e1 := sync_len d3
        have e2 := sync_pend d3
        exact ⟨by omega, by omega, sync_in c3⟩
/-- The world's plain state is in order. -/
structure Wok (n k : Nat) (d : DiskS) (jo : Option JrS) : Prop where
  len : d.vi.length = n
  pend : d.pend.length ≤ k
  inr : PendIn d n
  jr : ∀ j, jo = some j → j.sz ≤ n ∧ j.rs.length ≤ j.sz
theorem Wok.cut {n k : Nat} {d : DiskS} {jo : Option JrS} (h : Wok n k d jo) (m : Nat) : Wok n (k + 1) (d.cut m).2 jo := by
  unfold DiskS.cut
  split <;> exact ⟨h.len, Nat.le_succ_of_le h.pend, h.inr, h.jr⟩
theorem Wok.crash {n k : Nat} {d : DiskS} {jo : Option JrS} (h : Wok n k d jo) (hd : d.du.length = d.vi.length) (zs : List Int) (torn : Int) : Wok n 0 (d.crash zs torn) none := by
  have hti := torn_in (torn := torn) (fun p (hp : p ∈ keptW d.pend zs) => by have := (h.inr p (keptW_in hp)).1; rw [← h.len, ← hd] at this; exact this)
  exact ⟨by show (vis d.du (tornL torn (keptW d.pend zs))).length = n; rw [vis_len _ _ hti, hd, h.len], Nat.le_refl _, (by intro p hp; cases hp), fun j hj => by cases hj⟩
theorem load_rs {s : List UInt8} : ∀ (f : Nat) (rs : List (List UInt8)) (h : List UInt8) (sz : Nat) (rs' : List (List UInt8)) (h' : List UInt8) (sz' : Nat), loadL s f rs h sz = some (rs', h', sz') → rs.length ≤ sz → rs'.length ≤ sz'
  | 0, rs, h, sz, rs', h', sz', hl, hz => by
    simp only [loadL, Option.some.injEq, Prod.mk.injEq] at hl
    obtain ⟨rfl, _, rfl⟩ := hl; exact hz
  | f + 1, rs, h, sz, rs', h', sz', hl, hz => by
    rw [loadL] at hl
    split at hl
    · simp only [Option.some.injEq, Prod.mk.injEq] at hl; obtain ⟨rfl, _, rfl⟩ := hl; exact hz
    · split at hl
      · simp only [Option.some.injEq, Prod.mk.injEq] at hl; obtain ⟨rfl, _, rfl⟩ := hl; exact hz
      · split at hl
        · split at hl
          · cases hl
          · split at hl
            · exact load_rs f _ _ _ rs' h' sz' hl (by rw [List.length_append, List.length_singleton]; simp only [recS, List.length_cons, List.length_append]; omega)
            · cases hl
        · cases hl
theorem Wok.open {n k : Nat} {d : DiskS} {jo : Option JrS} (h : Wok n k d jo) (hn : 1 ≤ n) : Wok n (k + 1) d.openJ.2.2 d.openJ.2.1 := by
  have hk := openJ_keep d
  refine ⟨by rw [hk.1]; exact h.len, by have := hk.2.1; have := h.pend; omega, ?_, ?_⟩
  · unfold DiskS.openJ
    split
    · exact h.inr
    · split
      · exact h.inr
      · rename_i rs hh sz hl
        split
        · exact h.inr
        · rename_i hne
          have hz : sz < d.vi.length := by
            have h1 := load_sz _ _ _ _ _ _ _ hl (Nat.zero_le _)
            rcases Nat.lt_or_ge sz d.vi.length with h9 | h9
            · exact h9
            · exact absurd (by rw [List.drop_of_length_le h9, show d.vi.length - sz = 0 by omega]; rfl) hne
          have hzi : PendIn (d.zero sz).2 n := by
            have h1 := write_in h.inr sz (List.replicate (d.vi.length - sz) 0) (by rw [List.length_replicate, ← h.len]; omega) (by rw [← h.len]; exact hz)
            unfold DiskS.zero
            simp only
            split
            · exact h1
            · exact sync_in h1
          split <;> exact hzi
  · intro j hj
    have h1 := hk.2.2.1 j hj
    rw [h.len] at h1
    refine ⟨h1.2, ?_⟩
    unfold DiskS.openJ at hj
    split at hj
    · cases hj
    · split at hj
      · cases hj
      · rename_i rs hh sz hl
        have hr := load_rs _ _ _ _ _ _ _ hl (Nat.zero_le _)
        split at hj
        · cases hj; exact hr
        · split at hj
          · cases hj; exact hr
          · cases hj
theorem out_count : ∀ (ls : List (List UInt8)) (h : List UInt8), ls.length ≤ (outL h ls).length
  | [], h => by simp [outL]
  | x :: t, h => by
    have := out_count t (chainS h x)
    simp only [outL, List.length_append, List.length_cons, recS]; omega
theorem Wok.append {n k : Nat} {d : DiskS} {j : JrS} (h : Wok n k d (some j)) (ls : List (List UInt8)) (hs : ∀ r ∈ ls, r.length ≤ 65536) : Wok n (k + 1) (j.append d ls).2.2 (some (j.append d ls).2.1) := by
  have hj := h.jr j rfl
  have same : Wok n (k + 1) d (some j) := ⟨h.len, Nat.le_succ_of_le h.pend, h.inr, h.jr⟩
  unfold JrS.append
  split
  · exact same
  split
  · exact same
  rename_i hf
  split
  · exact same
  rename_i hne
  have h2 := outL_two j.h ls hs hne
  have hk := app_keep d j.sz n k (outL j.h ls) h.len h.pend h.inr (by rw [← h.len]; omega) h2
  split
  · exact ⟨hk.1, hk.2.1, hk.2.2, fun j' hj' => by cases hj'; exact hj⟩
  · refine ⟨hk.1, hk.2.1, hk.2.2, fun j' hj' => ?_⟩
    cases hj'
    have := out_count ls j.h
    exact ⟨by show j.sz + (outL j.h ls).length ≤ n; rw [← h.len]; omega, by show (j.rs ++ ls).length ≤ j.sz + (outL j.h ls).length; rw [List.length_append]; omega⟩
theorem jr_app_any (j : JrS) (d : DiskS) (jp dp : Nat) (sj sl sd : List Chunk) (v : Value) (ls : List (List UInt8)) (Tg : TypeId) (zg : Nat × Nat) {n k : Nat} (hW : Wok n k d (some j)) (hn : n ≤ 4194304) (hJ : JrR j jp dp sj) (hR : DiskR d dp sd) (hl : Row 9 v (ls.map strV) sl) (hk : k ≤ 999990) (hls : ls.length ≤ 1000000) (hs : ∀ r ∈ ls, r.length ≤ 65536) :
    Does Tryz.prog 8 #[.pointer (some ⟨jp, 0, none⟩), v] [sj, sl, sd, [(4, .cells (kTab.map u32v).toArray Tg zg)]] (fun r H' => ∃ sj' sd', r = .int .i64 (j.append d ls).1 ∧ JrR (j.append d ls).2.1 jp dp sj' ∧ DiskR (j.append d ls).2.2 dp sd' ∧ H' = [sj', sl, sd', [(4, .cells (kTab.map u32v).toArray Tg zg)]]) := by
  cases hbr : j.br with
  | true =>
    have e : j.append d ls = (230, j, d) := by unfold JrS.append; rw [if_pos (.inl hbr)]
    rw [e]
    refine does_mono (does_frame (jr_broken j jp dp sj v hJ hbr) [sl, sd, [(4, .cells (kTab.map u32v).toArray Tg zg)]] (by simp)) ?_
    rintro r _ ⟨H2, ⟨rfl, rfl⟩, rfl⟩
    exact ⟨_, ⟨sj, sd, rfl, hJ, hR, rfl⟩, by simp⟩
  | false =>
    have hj := hW.jr j rfl
    have hb := (hW.append ls hs).jr _ rfl
    exact jr_appendR j d jp dp sj sl sd v ls Tg zg hJ hR hl hbr (by rw [hW.len]; exact hj.1) (by have := hW.pend; omega) hls hs (by omega)
theorem kr_app_any (j : JrS) (d : DiskS) (kp rp : Nat) (sk sl sd : List Chunk) (v : Value) (ls : List (List UInt8)) {n k : Nat} (hW : Wok n k d (some j)) (hn : n ≤ 4194304) (hK : KrR j kp rp sk) (hR : RdR d rp sd) (hl : Row 9 v (ls.map strV) sl) (hk : k ≤ 999990) (hls : ls.length ≤ 1000000) (hs : ∀ r ∈ ls, r.length ≤ 65536) :
    Does Tryz.prog 10 #[.pointer (some ⟨kp, 0, none⟩), v] [sk, sl, sd] (fun r H' => ∃ sk' sd', r = .int .i64 (j.append d ls).1 ∧ KrR (j.append d ls).2.1 kp rp sk' ∧ RdR (j.append d ls).2.2 rp sd' ∧ H' = [sk', sl, sd']) := by
  have hj := hW.jr j rfl
  cases hbr : j.br with
  | true =>
    have e : j.append d ls = (230, j, d) := by unfold JrS.append; rw [if_pos (.inl hbr)]
    rw [e]
    obtain ⟨hh, hkn, hks, v0, sr, hrow, rfl⟩ := hK
    rw [hbr]
    refine does_mono (does_frame (rappend_broken kp rp v0 (.int .i64 (j.sz : Int)) v) [sr, sl, sd] (by simp)) ?_
    rintro r _ ⟨H2, ⟨rfl, rfl⟩, rfl⟩
    exact ⟨_, ⟨_, sd, rfl, ⟨hh, hkn, hks, v0, sr, hrow, by rw [hbr]⟩, hR, rfl⟩, by simp⟩
  | false =>
    have hb := (hW.append ls hs).jr _ rfl
    exact kr_append j d kp rp sk sl sd v ls hK hR hl hbr (by rw [hW.len]; exact hj.1) (by have := hW.pend; omega) hls hs (by omega)
theorem wopen_P (wp dp rp : Nat) (v1 v2 : Value) (d : DiskS) (sd sr : List Chunk) (pa : Addr) (Tx Tg : TypeId) (zx zg : Nat × Nat) (hR : DiskR d dp sd) (hr : RdR d rp sr) (hk : d.pend.length ≤ 999990) :
    Does Tryz.prog 15 #[.pointer (some ⟨wp, 0, none⟩)] [[(wp, .cells #[.pointer (some ⟨dp, 0, none⟩), v1, .pointer (some ⟨rp, 0, none⟩), v2] 32 (0, 0))], sd, sr, [(4, .cells (kTab.map u32v).toArray Tg zg)], [(0, .cells #[.iface 274 (.pointer (some pa))] Tx zx)]]
      (fun r H' => ∃ v1' v2' sj sk sd' sr', r = .bool true ∧ JoP d.openJ.2.1 dp v1' sj ∧ KoP d.openJ.2.1 rp v2' sk ∧ DiskR d.openJ.2.2 dp sd' ∧ RdR d.openJ.2.2 rp sr' ∧ H' = [[(wp, .cells #[.pointer (some ⟨dp, 0, none⟩), v1', .pointer (some ⟨rp, 0, none⟩), v2'] 32 (0, 0))], sj, sk, sd', sr', [(4, .cells (kTab.map u32v).toArray Tg zg)], [(0, .cells #[.iface 274 (.pointer (some pa))] Tx zx)]]) := by
  refine does_mono (wopen_any wp dp rp v1 v2 d sd sr pa Tx Tg zx zg hR hr hk) ?_
  rintro r _ ⟨sd', sr', rfl, hR', hr', ⟨j, jp, kp, sj, sk, hj, hJ, hK, rfl⟩ | ⟨hj, rfl⟩⟩
  · exact ⟨_, ⟨_, _, sj, sk, sd', sr', rfl, by rw [hj]; exact ⟨jp, rfl, hJ⟩, by rw [hj]; exact ⟨kp, rfl, hK⟩, hR', hr', rfl⟩, rfl⟩
  · exact ⟨_, ⟨.pointer none, .pointer none, [], [], sd', sr', rfl, by rw [hj]; exact ⟨rfl, rfl⟩, by rw [hj]; exact ⟨rfl, rfl⟩, hR', hr', rfl⟩, by simp⟩

/-- A call as the law has it. -/
structure OpV where
  kind : Int
  n : Int
  vl : Value
  vk : Value
  ls : List (List UInt8)
  zs : List Int
structure OpV.ok (M : List Chunk) (o : OpV) : Prop where
  k1 : -9223372036854775808 ≤ o.kind
  k2 : o.kind ≤ 9223372036854775807
  n1 : -9223372036854775808 ≤ o.n
  n2 : o.n ≤ 9223372036854775807
  sl : StrsIn M o.vl o.ls
  il : IntsIn M o.vk o.zs
theorem does_cut (wp dp rp n k : Nat) (v1 v2 : Value) (d : DiskS) (jo : Option JrS) (sj sk sd sr M : List Chunk) (pa : Addr) (Tx Tg : TypeId) (zx zg : Nat × Nat) (kind nn : Int) (vl vk : Value) (ls : List (List UInt8)) (zs : List Int) (hM : (OpV.mk kind nn vl vk ls zs).ok M) (hn : n ≤ 4194304) (h1n : 1 ≤ n) (hk : k ≤ 900000) (hW : Wok n k d jo) (hR : DiskR d dp sd) (hr : RdR d rp sr) (hJ : JoP jo dp v1 sj) (hK : KoP jo rp v2 sk) (hkind : pickN kind 8 = 5) : Does Tryz.prog 30 #[.pointer (some ⟨wp, 0, none⟩), .agg #[.int .i64 kind, vl, .int .i64 nn, vk]] [[(wp, .cells #[.pointer (some ⟨dp, 0, none⟩), v1, .pointer (some ⟨rp, 0, none⟩), v2] 32 (0, 0))], sj, sk, sd, sr, [(4, .cells (kTab.map u32v).toArray Tg zg)], [(0, .cells #[.iface 274 (.pointer (some pa))] Tx zx)], M]
      (fun r H' => ∃ d' jo' v1' v2' sj' sk' sd' sr', r = .bool true ∧ Wok n (k + 1) d' jo' ∧ JoP jo' dp v1' sj' ∧ KoP jo' rp v2' sk' ∧ DiskR d' dp sd' ∧ RdR d' rp sr' ∧ H' = [[(wp, .cells #[.pointer (some ⟨dp, 0, none⟩), v1', .pointer (some ⟨rp, 0, none⟩), v2'] 32 (0, 0))], sj', sk', sd', sr', [(4, .cells (kTab.map u32v).toArray Tg zg)], [(0, .cells #[.iface 274 (.pointer (some pa))] Tx zx)], M]) := by
 have hpk := pickN_lt kind 8 (by decide)
 have hpn := pickN_lt nn 5 (by decide)
 obtain ⟨k1, k2, n1, n2, hsl, hil⟩ := hM
 simp only at k1 k2 n1 n2 hsl hil
 have hpb := hW.pend
 refine spec_enter Tryz.func30 rfl Tryz.ntmps30 rfl ?_
 intro u R
 refine at_slots (env' := [(0, _), (1, _)]) [0, 1] rfl (fun _=>rfl) ?_
 refine at_seq ?_
 refine at_region ?_
 refine op_e (w_box (fun _=>rfl) (cs := #[_, _, _, _]) rfl) (fun _=>rfl) rfl rfl ?_
 rintro _ _ ⟨bo, rfl, rfl⟩
 refine op_v (p_assign (fun _=>rfl)) ?_
 refine ops_nil ?_
 refine nx_next ?_
 refine at_seq ?_
 refine at_seq ?_
 refine at_region ?_
 refine op_v (p_fieldAddr0 (off := 0) Tryz.underlying74 rfl rfl Tryz.sizeOf3 (fun _=>rfl)) ?_
 refine op_r (by repeat (first | exact Has.here _ | apply Has.there)) (p_load Tryz.isAgg3 (fun _=>rfl) (by rfl)) rfl rfl ?_
 refine op_e (w_callR (vs := [_, _]) (fun _=>rfl) Tryz.call12 (fun _=>rfl) rfl (pick_spec kind 8 (by decide) (by decide) k1 k2) (by repeat (first | exact Pull.nil _ | (apply Pull.cons; (focus (repeat (first | exact One.here _ _ | apply One.there))))))) (fun _=>rfl) rfl rfl ?_
 rintro _ _ ⟨rfl, rfl⟩
 refine ops_nil ?_
 refine nx_next ?_
 refine at_block ?_
 refine at_seq ?_
 refine at_region ?_
 first | refine op_v (p_eql_nat (n := 5) (fun _=>rfl) (fun _=>rfl)) ?_ | refine op_v (p_eql (fun _=>rfl) (fun _=>rfl)) ?_
 refine op_v (p_assign (fun _=>rfl)) ?_
 refine ops_nil ?_
 refine nx_next ?_
 first | refine at_if (fun _=>rfl) (fun hc1 => ?_) (fun hc1 => ?_) | refine at_if_bool (fun _=>rfl) (fun hc1 => ?_) (fun hc1 => ?_)
 ·
  refine at_seq ?_
  refine at_draw (n := 20) (0 :: 1 :: 3 :: 7 :: 0 :: 16 :: 48 :: 112 :: 255 :: 0 :: 512 :: 1536 :: 3584 :: 0 :: 8192 :: 25087 :: 57855 :: 131071 :: 262143 :: 524287 :: []) 164160 (by kernel_rfl) (by kernel_rfl) rfl ?_
  refine lin_v (D' := 1) 0 (p_move (fun _=>rfl)) ?_
  refine lin_v (D' := 3) 1 (p_nilChk (fun _=>rfl) rfl) ?_
  refine lin_v (D' := 7) 2 (p_fieldAddr0 (off := 0) Tryz.underlying32 rfl rfl Tryz.sizeOf27 (fun _=>rfl)) ?_
  refine lin_r (D' := 15) 3 rfl rfl rfl (by repeat (first | exact Has.here _ | apply Has.there)) (p_load Tryz.isAgg27 (fun _=>rfl) (by rfl)) ?_
  refine lin_v (D' := 31) 4 (p_fieldAddr0 (off := 2) Tryz.underlying74 rfl rfl Tryz.sizeOf3 (fun _=>rfl)) ?_
  refine lin_r (D' := 63) 5 rfl rfl rfl (by repeat (first | exact Has.here _ | apply Has.there)) (p_load Tryz.isAgg3 (fun _=>rfl) (by rfl)) ?_
  refine lin_v (D' := 575) 9 (p_move (fun _=>rfl)) ?_
  refine lin_v (D' := 1599) 10 (p_nilChk (fun _=>rfl) rfl) ?_
  refine lin_v (D' := 3647) 11 (p_fieldAddr0 (off := 2) Tryz.underlying32 rfl rfl Tryz.sizeOf29 (fun _=>rfl)) ?_
  refine lin_r (D' := 7743) 12 rfl rfl rfl (by repeat (first | exact Has.here _ | apply Has.there)) (p_load Tryz.isAgg29 (fun _=>rfl) (by rfl)) ?_
  refine lin_v (D' := 15935) 13 (p_fieldAddr0 (off := 2) Tryz.underlying74 rfl rfl Tryz.sizeOf3 (fun _=>rfl)) ?_
  refine lin_r (D' := 32319) 14 rfl rfl rfl (by repeat (first | exact Has.here _ | apply Has.there)) (p_load Tryz.isAgg3 (fun _=>rfl) (by rfl)) ?_
  refine lin_eff (l := [6]) (by kernel_rfl) (by kernel_rfl) ?_
  refine each_cons (m := 48) (D' := 32383) (is := [14, 12, 5, 3]) (bs := [true, true, false, true]) (T' := [(14, (_, _)), (12, (_, _)), (3, (_, _))]) rfl (fun _=>rfl) rfl rfl rfl (by kernel_rfl) rfl (w_callR (vs := [_, _]) (fun _=>rfl) Tryz.call12 (fun _=>rfl) rfl (pick_spec nn 5 (by decide) (by decide) n1 n2) (by repeat (first | exact Pull.nil _ | (apply Pull.cons; (focus (repeat (first | exact One.here _ _ | apply One.there))))))) ?hk_1 (fun _ _ h => h.elim) ?hl_1
  case hk_1 =>
   rintro _ _ ⟨rfl, rfl⟩
   refine ⟨keep_cons (by repeat (first | exact Has.here _ | apply Has.there)) (keep_cons (by repeat (first | exact Has.here _ | apply Has.there)) (keep_cons (by repeat (first | exact Has.here _ | apply Has.there)) (keep_nil))), ?_⟩
   first | (refine lin_v (D' := 32511) 7 (p_add_nat (m := 1) (fun _=>rfl) (fun _=>rfl) ?_) ?_; (focus (omega))) | (refine lin_v (D' := 32511) 7 (p_add (fun _=>rfl) (fun _=>rfl) (IntWalk.i64_in _ ?_)) ?_; (focus (omega)))
   refine lin_eff (l := [8]) (by kernel_rfl) (by kernel_rfl) ?_
   refine each_cons (m := 255) (D' := 32767) (is := [14, 12, 3]) (bs := [true, true, false]) (T' := [(14, (_, _)), (12, (_, _))]) rfl (fun _=>rfl) rfl rfl rfl (by kernel_rfl) rfl (w_call (vs := [_, _]) (fun _=>rfl) Tryz.call63 (fun _=>rfl) rfl (disk_cut_any d dp sd hR (1 + pickN nn 5) (by omega)) (by repeat (first | exact Pull.nil _ | (apply Pull.cons; (focus (repeat (first | exact One.here _ _ | apply One.there))))))) ?hk_2 no_pan ?hl_2
   case hk_2 =>
    rintro _ _ ⟨_, ⟨sd1, rfl, rfl, hR1⟩, rfl⟩
    refine ⟨keep_cons (by repeat (first | exact Has.here _ | apply Has.there)) (keep_cons (by repeat (first | exact Has.here _ | apply Has.there)) (keep_nil)), ?_⟩
    refine lin_eff (l := [15]) (by kernel_rfl) (by kernel_rfl) ?_
    refine each_cons (m := 25087) (D' := 65535) (is := [14, 12]) (bs := [false, true]) (T' := [(12, (_, _))]) rfl (fun _=>rfl) rfl rfl rfl (by kernel_rfl) rfl (w_callR (vs := [_, _]) (fun _=>rfl) Tryz.call12 (fun _=>rfl) rfl (pick_spec nn 5 (by decide) (by decide) n1 n2) (by repeat (first | exact Pull.nil _ | (apply Pull.cons; (focus (repeat (first | exact One.here _ _ | apply One.there))))))) ?hk_3 (fun _ _ h => h.elim) ?hl_3
    case hk_3 =>
     rintro _ _ ⟨rfl, rfl⟩
     refine ⟨keep_cons (by repeat (first | exact Has.here _ | apply Has.there)) (keep_nil), ?_⟩
     first | (refine lin_v (D' := 131071) 16 (p_add_nat (m := 1) (fun _=>rfl) (fun _=>rfl) ?_) ?_; (focus (omega))) | (refine lin_v (D' := 131071) 16 (p_add (fun _=>rfl) (fun _=>rfl) (IntWalk.i64_in _ ?_)) ?_; (focus (omega)))
     refine lin_eff (l := [17]) (by kernel_rfl) (by kernel_rfl) ?_
     refine each_cons (m := 131071) (D' := 262143) (is := [12]) (bs := [false]) (T' := []) rfl (fun _=>rfl) rfl rfl rfl (by kernel_rfl) rfl (w_call (vs := [_, _]) (fun _=>rfl) Tryz.call64 (fun _=>rfl) rfl (rd_cut d rp sr hr (1 + pickN nn 5) (by omega)) (by repeat (first | exact Pull.nil _ | (apply Pull.cons; (focus (repeat (first | exact One.here _ _ | apply One.there))))))) ?hk_4 no_pan ?hl_4
     case hk_4 =>
      rintro _ _ ⟨_, ⟨sr1, rfl, rfl, hr1⟩, rfl⟩
      refine ⟨keep_nil, ?_⟩
      first | refine lin_v (D' := 524287) 18 (p_eql_nat (fun _=>rfl) (fun _=>rfl)) ?_ | refine lin_v (D' := 524287) 18 (p_eql (fun _=>rfl) (fun _=>rfl)) ?_
      refine lin_v (D' := 1048575) 19 (p_assign (fun _=>rfl)) ?_
      refine lin_nil ?_
      refine nx_slots (env' := [(4, _)]) [4] rfl (fun _=>rfl) ?_
      refine nx_next ?_
      refine at_ret ?_
      refine nx_block_ret ?_
      refine nx_thru (by intro h; cases h) ?_
      refine nx_end1 (H' := _) rfl Tryz.results30 (fun _=>rfl) (by exact ⟨_, jo, v1, v2, sj, sk, sd1, sr1, by simp, hW.cut _, hJ, hK, hR1, hr1, rfl⟩)
     case hl_4 =>
      exact each_nil
    case hl_3 =>
     exact each_nil
   case hl_2 =>
    exact each_nil
  case hl_1 =>
   exact each_nil
 ·
  exfalso; omega

theorem does_crash (wp dp rp n k : Nat) (v1 v2 : Value) (d : DiskS) (jo : Option JrS) (sj sk sd sr M : List Chunk) (pa : Addr) (Tx Tg : TypeId) (zx zg : Nat × Nat) (kind nn : Int) (vl vk : Value) (ls : List (List UInt8)) (zs : List Int) (hM : (OpV.mk kind nn vl vk ls zs).ok M) (hn : n ≤ 4194304) (h1n : 1 ≤ n) (hk : k ≤ 900000) (hW : Wok n k d jo) (hR : DiskR d dp sd) (hr : RdR d rp sr) (hJ : JoP jo dp v1 sj) (hK : KoP jo rp v2 sk) (hkind : pickN kind 8 = 6) : Does Tryz.prog 30 #[.pointer (some ⟨wp, 0, none⟩), .agg #[.int .i64 kind, vl, .int .i64 nn, vk]] [[(wp, .cells #[.pointer (some ⟨dp, 0, none⟩), v1, .pointer (some ⟨rp, 0, none⟩), v2] 32 (0, 0))], sj, sk, sd, sr, [(4, .cells (kTab.map u32v).toArray Tg zg)], [(0, .cells #[.iface 274 (.pointer (some pa))] Tx zx)], M]
      (fun r H' => ∃ d' jo' v1' v2' sj' sk' sd' sr', r = .bool true ∧ Wok n (k + 1) d' jo' ∧ JoP jo' dp v1' sj' ∧ KoP jo' rp v2' sk' ∧ DiskR d' dp sd' ∧ RdR d' rp sr' ∧ H' = [[(wp, .cells #[.pointer (some ⟨dp, 0, none⟩), v1', .pointer (some ⟨rp, 0, none⟩), v2'] 32 (0, 0))], sj', sk', sd', sr', [(4, .cells (kTab.map u32v).toArray Tg zg)], [(0, .cells #[.iface 274 (.pointer (some pa))] Tx zx)], M]) := by
 have hpk := pickN_lt kind 8 (by decide)
 have hpn := pickN_lt nn 5 (by decide)
 obtain ⟨k1, k2, n1, n2, hsl, hil⟩ := hM
 simp only at k1 k2 n1 n2 hsl hil
 have hpb := hW.pend
 obtain ⟨pz, cz, rfl, hzm, hzg⟩ := id hil
 have hit := hil.take (min zs.length 20) (by omega)
 have hWc := hW.crash hR.1.1 (zs.take (min zs.length 20)) nn
 obtain ⟨d1, hd1⟩ : ∃ x, x = d.crash (zs.take (min zs.length 20)) nn := ⟨_, rfl⟩
 rw [← hd1] at hWc
 have hpc := hWc.pend
 refine spec_enter Tryz.func30 rfl Tryz.ntmps30 rfl ?_
 intro u R
 refine at_slots (env' := [(0, _), (1, _)]) [0, 1] rfl (fun _=>rfl) ?_
 refine at_seq ?_
 refine at_region ?_
 refine op_e (w_box (fun _=>rfl) (cs := #[_, _, _, _]) rfl) (fun _=>rfl) rfl rfl ?_
 rintro _ _ ⟨bo, rfl, rfl⟩
 refine op_v (p_assign (fun _=>rfl)) ?_
 refine ops_nil ?_
 refine nx_next ?_
 refine at_seq ?_
 refine at_seq ?_
 refine at_region ?_
 refine op_v (p_fieldAddr0 (off := 0) Tryz.underlying74 rfl rfl Tryz.sizeOf3 (fun _=>rfl)) ?_
 refine op_r (by repeat (first | exact Has.here _ | apply Has.there)) (p_load Tryz.isAgg3 (fun _=>rfl) (by rfl)) rfl rfl ?_
 refine op_e (w_callR (vs := [_, _]) (fun _=>rfl) Tryz.call12 (fun _=>rfl) rfl (pick_spec kind 8 (by decide) (by decide) k1 k2) (by repeat (first | exact Pull.nil _ | (apply Pull.cons; (focus (repeat (first | exact One.here _ _ | apply One.there))))))) (fun _=>rfl) rfl rfl ?_
 rintro _ _ ⟨rfl, rfl⟩
 refine ops_nil ?_
 refine nx_next ?_
 refine at_block ?_
 refine at_seq ?_
 refine at_region ?_
 first | refine op_v (p_eql_nat (n := 5) (fun _=>rfl) (fun _=>rfl)) ?_ | refine op_v (p_eql (fun _=>rfl) (fun _=>rfl)) ?_
 refine op_v (p_assign (fun _=>rfl)) ?_
 refine ops_nil ?_
 refine nx_next ?_
 first | refine at_if (fun _=>rfl) (fun hc1 => ?_) (fun hc1 => ?_) | refine at_if_bool (fun _=>rfl) (fun hc1 => ?_) (fun hc1 => ?_)
 ·
  exfalso; omega
 ·
  refine at_seq ?_
  refine at_region ?_
  first | refine op_v (p_eql_nat (n := 6) (fun _=>rfl) (fun _=>rfl)) ?_ | refine op_v (p_eql (fun _=>rfl) (fun _=>rfl)) ?_
  refine op_v (p_assign (fun _=>rfl)) ?_
  refine ops_nil ?_
  refine nx_next ?_
  first | refine at_if (fun _=>rfl) (fun hc2 => ?_) (fun hc2 => ?_) | refine at_if_bool (fun _=>rfl) (fun hc2 => ?_) (fun hc2 => ?_)
  ·
   refine at_seq ?_
   refine at_region ?_
   refine op_v (p_fieldAddr0 (off := 3) Tryz.underlying74 rfl rfl Tryz.sizeOf72 (fun _=>rfl)) ?_
   refine op_r (by repeat (first | exact Has.here _ | apply Has.there)) (p_load Tryz.isAgg72 (fun _=>rfl) (by rfl)) rfl rfl ?_
   refine op_v (p_fieldAddr0 (off := 3) Tryz.underlying74 rfl rfl Tryz.sizeOf72 (fun _=>rfl)) ?_
   refine op_r (by repeat (first | exact Has.here _ | apply Has.there)) (p_load Tryz.isAgg72 (fun _=>rfl) (by rfl)) rfl rfl ?_
   refine op_v (p_len_slice Tryz.underlying72 (fun _=>rfl)) ?_
   first | refine op_v (p_min_nat (n := 20) (fun _=>rfl) (fun _=>rfl)) ?_ | refine op_v (p_min_int (fun _=>rfl) (fun _=>rfl)) ?_
   (refine op_v (p_slice_slice_to Tryz.underlying72 Tryz.sizeOf3 (fun _=>rfl) (fun _=>rfl) ?_) ?_; (focus (omega)))
   refine op_v (p_assign (fun _=>rfl)) ?_
   refine ops_nil ?_
   refine nx_slots (env' := [(0, _), (3, _), (5, _)]) [0, 3, 5] rfl (fun _=>rfl) ?_
   refine nx_next ?_
   refine at_seq ?_
   refine at_draw (n := 8) (0 :: 1 :: 3 :: 7 :: 0 :: 0 :: 32 :: 127 :: []) 128 (by kernel_rfl) (by kernel_rfl) rfl ?_
   refine lin_v (D' := 1) 0 (p_move (fun _=>rfl)) ?_
   refine lin_v (D' := 3) 1 (p_nilChk (fun _=>rfl) rfl) ?_
   refine lin_v (D' := 7) 2 (p_fieldAddr0 (off := 0) Tryz.underlying32 rfl rfl Tryz.sizeOf27 (fun _=>rfl)) ?_
   refine lin_r (D' := 15) 3 rfl rfl rfl (by repeat (first | exact Has.here _ | apply Has.there)) (p_load Tryz.isAgg27 (fun _=>rfl) (by rfl)) ?_
   refine lin_v (D' := 31) 4 (p_move (fun _=>rfl)) ?_
   refine lin_v (D' := 63) 5 (p_fieldAddr0 (off := 2) Tryz.underlying74 rfl rfl Tryz.sizeOf3 (fun _=>rfl)) ?_
   refine lin_r (D' := 127) 6 rfl rfl rfl (by repeat (first | exact Has.here _ | apply Has.there)) (p_load Tryz.isAgg3 (fun _=>rfl) (by rfl)) ?_
   refine lin_eff (l := [7]) (by kernel_rfl) (by kernel_rfl) ?_
   refine each_cons (m := 127) (D' := 255) (is := [6, 3]) (bs := [false, false]) (T' := []) rfl (fun _=>rfl) rfl rfl rfl (by kernel_rfl) rfl (w_call (vs := [_, _, _]) (fun _=>rfl) Tryz.call65 (fun _=>rfl) rfl (disk_crash d dp sd M _ _ nn hR (fun p hp => by have := hW.inr p hp; have := hR.1.1; have := hW.len; omega) (by omega) hit (by rw [List.length_take]; omega) n1 n2) (by repeat (first | exact Pull.nil _ | (apply Pull.cons; (focus (repeat (first | exact One.here _ _ | apply One.there))))))) ?hk_1 no_pan ?hl_1
   case hk_1 =>
    rintro _ _ ⟨_, ⟨sd1, rfl, hR1, rfl⟩, rfl⟩
    refine ⟨keep_nil, ?_⟩
    rw [← hd1] at hR1
    refine lin_nil ?_
    refine nx_next ?_
    refine at_seq ?_
    refine at_draw (n := 8) (0 :: 1 :: 3 :: 7 :: 0 :: 0 :: 32 :: 127 :: []) 128 (by kernel_rfl) (by kernel_rfl) rfl ?_
    refine lin_v (D' := 1) 0 (p_move (fun _=>rfl)) ?_
    refine lin_v (D' := 3) 1 (p_nilChk (fun _=>rfl) rfl) ?_
    refine lin_v (D' := 7) 2 (p_fieldAddr0 (off := 2) Tryz.underlying32 rfl rfl Tryz.sizeOf29 (fun _=>rfl)) ?_
    refine lin_r (D' := 15) 3 rfl rfl rfl (by repeat (first | exact Has.here _ | apply Has.there)) (p_load Tryz.isAgg29 (fun _=>rfl) (by rfl)) ?_
    refine lin_v (D' := 31) 4 (p_move (fun _=>rfl)) ?_
    refine lin_v (D' := 63) 5 (p_fieldAddr0 (off := 2) Tryz.underlying74 rfl rfl Tryz.sizeOf3 (fun _=>rfl)) ?_
    refine lin_r (D' := 127) 6 rfl rfl rfl (by repeat (first | exact Has.here _ | apply Has.there)) (p_load Tryz.isAgg3 (fun _=>rfl) (by rfl)) ?_
    refine lin_eff (l := [7]) (by kernel_rfl) (by kernel_rfl) ?_
    refine each_cons (m := 127) (D' := 255) (is := [6, 3]) (bs := [false, false]) (T' := []) rfl (fun _=>rfl) rfl rfl rfl (by kernel_rfl) rfl (w_call (vs := [_, _, _]) (fun _=>rfl) Tryz.call66 (fun _=>rfl) rfl (rd_crash d rp sr M _ _ nn hr (by omega) hit n1 n2) (by repeat (first | exact Pull.nil _ | (apply Pull.cons; (focus (repeat (first | exact One.here _ _ | apply One.there))))))) ?hk_2 no_pan ?hl_2
    case hk_2 =>
     rintro _ _ ⟨_, ⟨sr1, rfl, hr1, rfl⟩, rfl⟩
     refine ⟨keep_nil, ?_⟩
     rw [← hd1] at hr1
     refine lin_nil ?_
     refine nx_slots (env' := [(0, _)]) [0] rfl (fun _=>rfl) ?_
     refine nx_next ?_
     refine at_seq ?_
     refine at_region ?_
     refine op_v (p_move (fun _=>rfl)) ?_
     refine ops_eff (fun _=>rfl) (fits_of rfl) rfl (w_call (vs := [_]) (fun _=>rfl) Tryz.call15 (fun _=>rfl) rfl (wopen_P wp dp rp _ _ d1 sd1 sr1 pa Tx Tg zx zg hR1 hr1 (by omega)) (by repeat (first | exact Pull.nil _ | (apply Pull.cons; (focus (repeat (first | exact One.here _ _ | apply One.there))))))) ?_ no_pan
     rintro _ _ ⟨_, ⟨v1', v2', sj', sk', sd', sr', rfl, hJ', hK', hR', hr', rfl⟩, rfl⟩
     refine op_v (p_assign (fun _=>rfl)) ?_
     refine ops_nil ?_
     refine nx_next ?_
     refine at_ret ?_
     refine nx_block_ret ?_
     refine nx_thru (by intro h; cases h) ?_
     refine nx_end1 (H' := _) rfl Tryz.results30 (fun _=>rfl) (by exact ⟨_, _, v1', v2', sj', sk', sd', sr', rfl, (⟨(hWc.open h1n).len, Nat.le_trans (hWc.open h1n).pend (by omega), (hWc.open h1n).inr, (hWc.open h1n).jr⟩ : Wok n (k + 1) _ _), hJ', hK', hR', hr', rfl⟩)
    case hl_2 =>
     exact each_nil
   case hl_1 =>
    exact each_nil
  ·
   exfalso; omega

theorem does_open (wp dp rp n k : Nat) (v1 v2 : Value) (d : DiskS) (jo : Option JrS) (sj sk sd sr M : List Chunk) (pa : Addr) (Tx Tg : TypeId) (zx zg : Nat × Nat) (kind nn : Int) (vl vk : Value) (ls : List (List UInt8)) (zs : List Int) (hM : (OpV.mk kind nn vl vk ls zs).ok M) (hn : n ≤ 4194304) (h1n : 1 ≤ n) (hk : k ≤ 900000) (hW : Wok n k d jo) (hR : DiskR d dp sd) (hr : RdR d rp sr) (hJ : JoP jo dp v1 sj) (hK : KoP jo rp v2 sk) (hkind : pickN kind 8 = 7) : Does Tryz.prog 30 #[.pointer (some ⟨wp, 0, none⟩), .agg #[.int .i64 kind, vl, .int .i64 nn, vk]] [[(wp, .cells #[.pointer (some ⟨dp, 0, none⟩), v1, .pointer (some ⟨rp, 0, none⟩), v2] 32 (0, 0))], sj, sk, sd, sr, [(4, .cells (kTab.map u32v).toArray Tg zg)], [(0, .cells #[.iface 274 (.pointer (some pa))] Tx zx)], M]
      (fun r H' => ∃ d' jo' v1' v2' sj' sk' sd' sr', r = .bool true ∧ Wok n (k + 1) d' jo' ∧ JoP jo' dp v1' sj' ∧ KoP jo' rp v2' sk' ∧ DiskR d' dp sd' ∧ RdR d' rp sr' ∧ H' = [[(wp, .cells #[.pointer (some ⟨dp, 0, none⟩), v1', .pointer (some ⟨rp, 0, none⟩), v2'] 32 (0, 0))], sj', sk', sd', sr', [(4, .cells (kTab.map u32v).toArray Tg zg)], [(0, .cells #[.iface 274 (.pointer (some pa))] Tx zx)], M]) := by
 have hpk := pickN_lt kind 8 (by decide)
 have hpn := pickN_lt nn 5 (by decide)
 obtain ⟨k1, k2, n1, n2, hsl, hil⟩ := hM
 simp only at k1 k2 n1 n2 hsl hil
 have hpb := hW.pend
 refine spec_enter Tryz.func30 rfl Tryz.ntmps30 rfl ?_
 intro u R
 refine at_slots (env' := [(0, _), (1, _)]) [0, 1] rfl (fun _=>rfl) ?_
 refine at_seq ?_
 refine at_region ?_
 refine op_e (w_box (fun _=>rfl) (cs := #[_, _, _, _]) rfl) (fun _=>rfl) rfl rfl ?_
 rintro _ _ ⟨bo, rfl, rfl⟩
 refine op_v (p_assign (fun _=>rfl)) ?_
 refine ops_nil ?_
 refine nx_next ?_
 refine at_seq ?_
 refine at_seq ?_
 refine at_region ?_
 refine op_v (p_fieldAddr0 (off := 0) Tryz.underlying74 rfl rfl Tryz.sizeOf3 (fun _=>rfl)) ?_
 refine op_r (by repeat (first | exact Has.here _ | apply Has.there)) (p_load Tryz.isAgg3 (fun _=>rfl) (by rfl)) rfl rfl ?_
 refine op_e (w_callR (vs := [_, _]) (fun _=>rfl) Tryz.call12 (fun _=>rfl) rfl (pick_spec kind 8 (by decide) (by decide) k1 k2) (by repeat (first | exact Pull.nil _ | (apply Pull.cons; (focus (repeat (first | exact One.here _ _ | apply One.there))))))) (fun _=>rfl) rfl rfl ?_
 rintro _ _ ⟨rfl, rfl⟩
 refine ops_nil ?_
 refine nx_next ?_
 refine at_block ?_
 refine at_seq ?_
 refine at_region ?_
 first | refine op_v (p_eql_nat (n := 5) (fun _=>rfl) (fun _=>rfl)) ?_ | refine op_v (p_eql (fun _=>rfl) (fun _=>rfl)) ?_
 refine op_v (p_assign (fun _=>rfl)) ?_
 refine ops_nil ?_
 refine nx_next ?_
 first | refine at_if (fun _=>rfl) (fun hc1 => ?_) (fun hc1 => ?_) | refine at_if_bool (fun _=>rfl) (fun hc1 => ?_) (fun hc1 => ?_)
 ·
  exfalso; omega
 ·
  refine at_seq ?_
  refine at_region ?_
  first | refine op_v (p_eql_nat (n := 6) (fun _=>rfl) (fun _=>rfl)) ?_ | refine op_v (p_eql (fun _=>rfl) (fun _=>rfl)) ?_
  refine op_v (p_assign (fun _=>rfl)) ?_
  refine ops_nil ?_
  refine nx_next ?_
  first | refine at_if (fun _=>rfl) (fun hc2 => ?_) (fun hc2 => ?_) | refine at_if_bool (fun _=>rfl) (fun hc2 => ?_) (fun hc2 => ?_)
  ·
   exfalso; omega
  ·
   refine at_seq ?_
   refine at_region ?_
   first | refine op_v (p_eql_nat (n := 7) (fun _=>rfl) (fun _=>rfl)) ?_ | refine op_v (p_eql (fun _=>rfl) (fun _=>rfl)) ?_
   refine op_v (p_assign (fun _=>rfl)) ?_
   refine ops_nil ?_
   refine nx_next ?_
   first | refine at_if (fun _=>rfl) (fun hc3 => ?_) (fun hc3 => ?_) | refine at_if_bool (fun _=>rfl) (fun hc3 => ?_) (fun hc3 => ?_)
   ·
    refine at_seq ?_
    refine at_region ?_
    refine op_v (p_move (fun _=>rfl)) ?_
    refine ops_eff (fun _=>rfl) (fits_of rfl) rfl (w_call (vs := [_]) (fun _=>rfl) Tryz.call15 (fun _=>rfl) rfl (wopen_P wp dp rp _ _ d sd sr pa Tx Tg zx zg hR hr (by omega)) (by repeat (first | exact Pull.nil _ | (apply Pull.cons; (focus (repeat (first | exact One.here _ _ | apply One.there))))))) ?_ no_pan
    rintro _ _ ⟨_, ⟨v1', v2', sj', sk', sd', sr', rfl, hJ', hK', hR', hr', rfl⟩, rfl⟩
    refine op_v (p_assign (fun _=>rfl)) ?_
    refine ops_nil ?_
    refine nx_slots (env' := [(4, _)]) [4] rfl (fun _=>rfl) ?_
    refine nx_next ?_
    refine at_ret ?_
    refine nx_block_ret ?_
    refine nx_thru (by intro h; cases h) ?_
    refine nx_end1 (H' := _) rfl Tryz.results30 (fun _=>rfl) (by exact ⟨_, _, v1', v2', sj', sk', sd', sr', rfl, (hW.open h1n), hJ', hK', hR', hr', rfl⟩)
   ·
    exfalso; omega

theorem does_none (wp dp rp n k : Nat) (d : DiskS) (sd sr M : List Chunk) (pa : Addr) (Tx Tg : TypeId) (zx zg : Nat × Nat) (kind nn : Int) (vl vk : Value) (ls : List (List UInt8)) (zs : List Int) (hM : (OpV.mk kind nn vl vk ls zs).ok M) (hn : n ≤ 4194304) (h1n : 1 ≤ n) (hk : k ≤ 900000) (hW : Wok n k d none) (hR : DiskR d dp sd) (hr : RdR d rp sr) (hkind : pickN kind 8 < 5) : Does Tryz.prog 30 #[.pointer (some ⟨wp, 0, none⟩), .agg #[.int .i64 kind, vl, .int .i64 nn, vk]] [[(wp, .cells #[.pointer (some ⟨dp, 0, none⟩), .pointer none, .pointer (some ⟨rp, 0, none⟩), .pointer none] 32 (0, 0))], sd, sr, [(4, .cells (kTab.map u32v).toArray Tg zg)], [(0, .cells #[.iface 274 (.pointer (some pa))] Tx zx)], M]
      (fun r H' => ∃ d' jo' v1' v2' sj' sk' sd' sr', r = .bool true ∧ Wok n (k + 1) d' jo' ∧ JoP jo' dp v1' sj' ∧ KoP jo' rp v2' sk' ∧ DiskR d' dp sd' ∧ RdR d' rp sr' ∧ H' = [[(wp, .cells #[.pointer (some ⟨dp, 0, none⟩), v1', .pointer (some ⟨rp, 0, none⟩), v2'] 32 (0, 0))], sj', sk', sd', sr', [(4, .cells (kTab.map u32v).toArray Tg zg)], [(0, .cells #[.iface 274 (.pointer (some pa))] Tx zx)], M]) := by
 have hpk := pickN_lt kind 8 (by decide)
 have hpn := pickN_lt nn 5 (by decide)
 obtain ⟨k1, k2, n1, n2, hsl, hil⟩ := hM
 simp only at k1 k2 n1 n2 hsl hil
 have hpb := hW.pend
 refine spec_enter Tryz.func30 rfl Tryz.ntmps30 rfl ?_
 intro u R
 refine at_slots (env' := [(0, _), (1, _)]) [0, 1] rfl (fun _=>rfl) ?_
 refine at_seq ?_
 refine at_region ?_
 refine op_e (w_box (fun _=>rfl) (cs := #[_, _, _, _]) rfl) (fun _=>rfl) rfl rfl ?_
 rintro _ _ ⟨bo, rfl, rfl⟩
 refine op_v (p_assign (fun _=>rfl)) ?_
 refine ops_nil ?_
 refine nx_next ?_
 refine at_seq ?_
 refine at_seq ?_
 refine at_region ?_
 refine op_v (p_fieldAddr0 (off := 0) Tryz.underlying74 rfl rfl Tryz.sizeOf3 (fun _=>rfl)) ?_
 refine op_r (by repeat (first | exact Has.here _ | apply Has.there)) (p_load Tryz.isAgg3 (fun _=>rfl) (by rfl)) rfl rfl ?_
 refine op_e (w_callR (vs := [_, _]) (fun _=>rfl) Tryz.call12 (fun _=>rfl) rfl (pick_spec kind 8 (by decide) (by decide) k1 k2) (by repeat (first | exact Pull.nil _ | (apply Pull.cons; (focus (repeat (first | exact One.here _ _ | apply One.there))))))) (fun _=>rfl) rfl rfl ?_
 rintro _ _ ⟨rfl, rfl⟩
 refine ops_nil ?_
 refine nx_next ?_
 refine at_block ?_
 refine at_seq ?_
 refine at_region ?_
 first | refine op_v (p_eql_nat (n := 5) (fun _=>rfl) (fun _=>rfl)) ?_ | refine op_v (p_eql (fun _=>rfl) (fun _=>rfl)) ?_
 refine op_v (p_assign (fun _=>rfl)) ?_
 refine ops_nil ?_
 refine nx_next ?_
 first | refine at_if (fun _=>rfl) (fun hc1 => ?_) (fun hc1 => ?_) | refine at_if_bool (fun _=>rfl) (fun hc1 => ?_) (fun hc1 => ?_)
 ·
  exfalso; omega
 ·
  refine at_seq ?_
  refine at_region ?_
  first | refine op_v (p_eql_nat (n := 6) (fun _=>rfl) (fun _=>rfl)) ?_ | refine op_v (p_eql (fun _=>rfl) (fun _=>rfl)) ?_
  refine op_v (p_assign (fun _=>rfl)) ?_
  refine ops_nil ?_
  refine nx_next ?_
  first | refine at_if (fun _=>rfl) (fun hc2 => ?_) (fun hc2 => ?_) | refine at_if_bool (fun _=>rfl) (fun hc2 => ?_) (fun hc2 => ?_)
  ·
   exfalso; omega
  ·
   refine at_seq ?_
   refine at_region ?_
   first | refine op_v (p_eql_nat (n := 7) (fun _=>rfl) (fun _=>rfl)) ?_ | refine op_v (p_eql (fun _=>rfl) (fun _=>rfl)) ?_
   refine op_v (p_assign (fun _=>rfl)) ?_
   refine ops_nil ?_
   refine nx_next ?_
   first | refine at_if (fun _=>rfl) (fun hc3 => ?_) (fun hc3 => ?_) | refine at_if_bool (fun _=>rfl) (fun hc3 => ?_) (fun hc3 => ?_)
   ·
    exfalso; omega
   ·
    refine at_skip ?_
    refine nx_block_normal ?_
    refine nx_next ?_
    refine at_seq ?_
    refine at_seq ?_
    refine at_region ?_
    refine op_v (p_move (fun _=>rfl)) ?_
    refine op_v (p_nilChk (fun _=>rfl) rfl) ?_
    refine op_v (p_fieldAddr0 (off := 1) Tryz.underlying32 rfl rfl Tryz.sizeOf28 (fun _=>rfl)) ?_
    refine op_r (by repeat (first | exact Has.here _ | apply Has.there)) (p_load Tryz.isAgg28 (fun _=>rfl) (by rfl)) rfl rfl ?_
    first | refine op_v (p_eql_nil_nil Tryz.underlying28 (fun _=>rfl) (fun _=>rfl)) ?_ | refine op_v (p_eql_ptr_nil Tryz.underlying28 (fun _=>rfl) (fun _=>rfl)) ?_
    refine ops_nil ?_
    refine nx_slots (env' := [(0, _), (3, _), (65, _)]) [0, 3, 65] rfl (fun _=>rfl) ?_
    refine nx_next ?_
    refine at_if_bool (fun _=>rfl) (fun hb9 => ?_) (fun hb9 => ?_)
    ·
     refine at_seq ?_
     refine at_draw (n := 10) (0 :: 1 :: 3 :: 7 :: 0 :: 16 :: 48 :: 127 :: 255 :: 511 :: []) 192 (by kernel_rfl) (by kernel_rfl) rfl ?_
     refine lin_v (D' := 1) 0 (p_move (fun _=>rfl)) ?_
     refine lin_v (D' := 3) 1 (p_nilChk (fun _=>rfl) rfl) ?_
     refine lin_v (D' := 7) 2 (p_fieldAddr0 (off := 1) Tryz.underlying32 rfl rfl Tryz.sizeOf28 (fun _=>rfl)) ?_
     refine lin_r (D' := 15) 3 rfl rfl rfl (by repeat (first | exact Has.here _ | apply Has.there)) (p_load Tryz.isAgg28 (fun _=>rfl) (by rfl)) ?_
     refine lin_v (D' := 31) 4 (p_fieldAddr0 (off := 1) Tryz.underlying74 rfl rfl Tryz.sizeOf22 (fun _=>rfl)) ?_
     refine lin_r (D' := 63) 5 rfl rfl rfl (by repeat (first | exact Has.here _ | apply Has.there)) (p_load Tryz.isAgg22 (fun _=>rfl) (by rfl)) ?_
     refine lin_eff (l := [6]) (by kernel_rfl) (by kernel_rfl) ?_
     refine each_cons (m := 48) (D' := 127) (is := [5, 3]) (bs := [false, true]) (T' := [(3, (_, _))]) rfl (fun _=>rfl) rfl rfl rfl (by kernel_rfl) rfl (w_call (vs := [_]) (fun _=>rfl) Tryz.call9 (fun _=>rfl) rfl (few_mem hsl) (by repeat (first | exact Pull.nil _ | (apply Pull.cons; (focus (repeat (first | exact One.here _ _ | apply One.there))))))) ?hk_1 no_pan ?hl_1
     case hk_1 =>
      rintro _ _ ⟨_, ⟨sf, hf, rfl⟩, rfl⟩
      refine ⟨keep_cons (by repeat (first | exact Has.here _ | apply Has.there)) (keep_nil), ?_⟩
      refine lin_eff (l := [7]) (by kernel_rfl) (by kernel_rfl) ?_
      refine each_cons (m := 127) (D' := 255) (is := [3]) (bs := [false]) (T' := []) rfl (fun _=>rfl) rfl rfl rfl (by kernel_rfl) rfl (w_callR (vs := [_, _]) (fun _=>rfl) Tryz.call8 (fun _=>rfl) rfl (append_nilj _) (by repeat (first | exact Pull.nil _ | (apply Pull.cons; (focus (repeat (first | exact One.here _ _ | apply One.there))))))) ?hk_2 (fun _ _ h => h.elim) ?hl_2
      case hk_2 =>
       rintro _ _ ⟨rfl, rfl⟩
       refine ⟨keep_nil, ?_⟩
       first | refine lin_v (D' := 511) 8 (p_eql_nat (n := 1) (fun _=>rfl) (fun _=>rfl)) ?_ | refine lin_v (D' := 511) 8 (p_eql (fun _=>rfl) (fun _=>rfl)) ?_
       refine lin_v (D' := 1023) 9 (p_assign (fun _=>rfl)) ?_
       refine lin_nil ?_
       refine nx_next ?_
       refine at_ret ?_
       refine nx_thru (by intro h; cases h) ?_
       refine nx_nil ?_
       refine nx_nil ?_
       refine nx_end1 (H' := _) rfl Tryz.results30 (fun _=>rfl) (by
         exact ⟨d, none, .pointer none, .pointer none, [], [], sd, sr, by simp, ⟨hW.len, Nat.le_succ_of_le hW.pend, hW.inr, hW.jr⟩, ⟨rfl, rfl⟩, ⟨rfl, rfl⟩, hR, hr, rfl⟩) ?_
       repeat (first | exact Sub.refl _ | exact Sub.nil _ | (apply Sub.cons; (focus (repeat (first | exact One.here _ _ | apply One.there)))) | refine Sub.drop _ ?_)
      case hl_2 =>
       exact each_nil
     case hl_1 =>
      exact each_nil
    ·
     cases hb9

theorem does_some (wp dp rp n k : Nat) (jp kp : Nat) (d : DiskS) (j : JrS) (sj sk sd sr M : List Chunk) (pa : Addr) (Tx Tg : TypeId) (zx zg : Nat × Nat) (kind nn : Int) (vl vk : Value) (ls : List (List UInt8)) (zs : List Int) (hM : (OpV.mk kind nn vl vk ls zs).ok M) (hn : n ≤ 4194304) (h1n : 1 ≤ n) (hk : k ≤ 900000) (hW : Wok n k d (some j)) (hR : DiskR d dp sd) (hr : RdR d rp sr) (hJ : JrR j jp dp sj) (hK : KrR j kp rp sk) (hkind : pickN kind 8 < 5) : Does Tryz.prog 30 #[.pointer (some ⟨wp, 0, none⟩), .agg #[.int .i64 kind, vl, .int .i64 nn, vk]] [[(wp, .cells #[.pointer (some ⟨dp, 0, none⟩), .pointer (some ⟨jp, 0, none⟩), .pointer (some ⟨rp, 0, none⟩), .pointer (some ⟨kp, 0, none⟩)] 32 (0, 0))], sj, sk, sd, sr, [(4, .cells (kTab.map u32v).toArray Tg zg)], [(0, .cells #[.iface 274 (.pointer (some pa))] Tx zx)], M]
      (fun r H' => ∃ d' jo' v1' v2' sj' sk' sd' sr', r = .bool true ∧ Wok n (k + 1) d' jo' ∧ JoP jo' dp v1' sj' ∧ KoP jo' rp v2' sk' ∧ DiskR d' dp sd' ∧ RdR d' rp sr' ∧ H' = [[(wp, .cells #[.pointer (some ⟨dp, 0, none⟩), v1', .pointer (some ⟨rp, 0, none⟩), v2'] 32 (0, 0))], sj', sk', sd', sr', [(4, .cells (kTab.map u32v).toArray Tg zg)], [(0, .cells #[.iface 274 (.pointer (some pa))] Tx zx)], M]) := by
 have hpk := pickN_lt kind 8 (by decide)
 have hpn := pickN_lt nn 5 (by decide)
 obtain ⟨k1, k2, n1, n2, hsl, hil⟩ := hM
 simp only at k1 k2 n1 n2 hsl hil
 have hpb := hW.pend
 refine spec_enter Tryz.func30 rfl Tryz.ntmps30 rfl ?_
 intro u R
 refine at_slots (env' := [(0, _), (1, _)]) [0, 1] rfl (fun _=>rfl) ?_
 refine at_seq ?_
 refine at_region ?_
 refine op_e (w_box (fun _=>rfl) (cs := #[_, _, _, _]) rfl) (fun _=>rfl) rfl rfl ?_
 rintro _ _ ⟨bo, rfl, rfl⟩
 refine op_v (p_assign (fun _=>rfl)) ?_
 refine ops_nil ?_
 refine nx_next ?_
 refine at_seq ?_
 refine at_seq ?_
 refine at_region ?_
 refine op_v (p_fieldAddr0 (off := 0) Tryz.underlying74 rfl rfl Tryz.sizeOf3 (fun _=>rfl)) ?_
 refine op_r (by repeat (first | exact Has.here _ | apply Has.there)) (p_load Tryz.isAgg3 (fun _=>rfl) (by rfl)) rfl rfl ?_
 refine op_e (w_callR (vs := [_, _]) (fun _=>rfl) Tryz.call12 (fun _=>rfl) rfl (pick_spec kind 8 (by decide) (by decide) k1 k2) (by repeat (first | exact Pull.nil _ | (apply Pull.cons; (focus (repeat (first | exact One.here _ _ | apply One.there))))))) (fun _=>rfl) rfl rfl ?_
 rintro _ _ ⟨rfl, rfl⟩
 refine ops_nil ?_
 refine nx_next ?_
 refine at_block ?_
 refine at_seq ?_
 refine at_region ?_
 first | refine op_v (p_eql_nat (n := 5) (fun _=>rfl) (fun _=>rfl)) ?_ | refine op_v (p_eql (fun _=>rfl) (fun _=>rfl)) ?_
 refine op_v (p_assign (fun _=>rfl)) ?_
 refine ops_nil ?_
 refine nx_next ?_
 first | refine at_if (fun _=>rfl) (fun hc1 => ?_) (fun hc1 => ?_) | refine at_if_bool (fun _=>rfl) (fun hc1 => ?_) (fun hc1 => ?_)
 ·
  exfalso; omega
 ·
  refine at_seq ?_
  refine at_region ?_
  first | refine op_v (p_eql_nat (n := 6) (fun _=>rfl) (fun _=>rfl)) ?_ | refine op_v (p_eql (fun _=>rfl) (fun _=>rfl)) ?_
  refine op_v (p_assign (fun _=>rfl)) ?_
  refine ops_nil ?_
  refine nx_next ?_
  first | refine at_if (fun _=>rfl) (fun hc2 => ?_) (fun hc2 => ?_) | refine at_if_bool (fun _=>rfl) (fun hc2 => ?_) (fun hc2 => ?_)
  ·
   exfalso; omega
  ·
   refine at_seq ?_
   refine at_region ?_
   first | refine op_v (p_eql_nat (n := 7) (fun _=>rfl) (fun _=>rfl)) ?_ | refine op_v (p_eql (fun _=>rfl) (fun _=>rfl)) ?_
   refine op_v (p_assign (fun _=>rfl)) ?_
   refine ops_nil ?_
   refine nx_next ?_
   first | refine at_if (fun _=>rfl) (fun hc3 => ?_) (fun hc3 => ?_) | refine at_if_bool (fun _=>rfl) (fun hc3 => ?_) (fun hc3 => ?_)
   ·
    exfalso; omega
   ·
    refine at_skip ?_
    refine nx_block_normal ?_
    refine nx_next ?_
    refine at_seq ?_
    refine at_seq ?_
    refine at_region ?_
    refine op_v (p_move (fun _=>rfl)) ?_
    refine op_v (p_nilChk (fun _=>rfl) rfl) ?_
    refine op_v (p_fieldAddr0 (off := 1) Tryz.underlying32 rfl rfl Tryz.sizeOf28 (fun _=>rfl)) ?_
    refine op_r (by repeat (first | exact Has.here _ | apply Has.there)) (p_load Tryz.isAgg28 (fun _=>rfl) (by rfl)) rfl rfl ?_
    first | refine op_v (p_eql_nil_nil Tryz.underlying28 (fun _=>rfl) (fun _=>rfl)) ?_ | refine op_v (p_eql_ptr_nil Tryz.underlying28 (fun _=>rfl) (fun _=>rfl)) ?_
    refine ops_nil ?_
    refine nx_slots (env' := [(0, _), (3, _), (65, _)]) [0, 3, 65] rfl (fun _=>rfl) ?_
    refine nx_next ?_
    refine at_if_bool (fun _=>rfl) (fun hb9 => ?_) (fun hb9 => ?_)
    ·
     cases hb9
    ·
     refine at_skip ?_
     refine nx_next ?_
     refine at_seq ?_
     refine at_draw (n := 18) (0 :: 1 :: 3 :: 7 :: 0 :: 16 :: 48 :: 127 :: 0 :: 256 :: 768 :: 1792 :: 0 :: 4096 :: 12543 :: 32767 :: 65535 :: 131071 :: []) 49344 (by kernel_rfl) (by kernel_rfl) rfl ?_
     refine lin_v (D' := 1) 0 (p_move (fun _=>rfl)) ?_
     refine lin_v (D' := 3) 1 (p_nilChk (fun _=>rfl) rfl) ?_
     refine lin_v (D' := 7) 2 (p_fieldAddr0 (off := 1) Tryz.underlying32 rfl rfl Tryz.sizeOf28 (fun _=>rfl)) ?_
     refine lin_r (D' := 15) 3 rfl rfl rfl (by repeat (first | exact Has.here _ | apply Has.there)) (p_load Tryz.isAgg28 (fun _=>rfl) (by rfl)) ?_
     refine lin_v (D' := 31) 4 (p_fieldAddr0 (off := 1) Tryz.underlying74 rfl rfl Tryz.sizeOf22 (fun _=>rfl)) ?_
     refine lin_r (D' := 63) 5 rfl rfl rfl (by repeat (first | exact Has.here _ | apply Has.there)) (p_load Tryz.isAgg22 (fun _=>rfl) (by rfl)) ?_
     refine lin_v (D' := 319) 8 (p_move (fun _=>rfl)) ?_
     refine lin_v (D' := 831) 9 (p_nilChk (fun _=>rfl) rfl) ?_
     refine lin_v (D' := 1855) 10 (p_fieldAddr0 (off := 3) Tryz.underlying32 rfl rfl Tryz.sizeOf30 (fun _=>rfl)) ?_
     refine lin_r (D' := 3903) 11 rfl rfl rfl (by repeat (first | exact Has.here _ | apply Has.there)) (p_load Tryz.isAgg30 (fun _=>rfl) (by rfl)) ?_
     refine lin_v (D' := 7999) 12 (p_fieldAddr0 (off := 1) Tryz.underlying74 rfl rfl Tryz.sizeOf22 (fun _=>rfl)) ?_
     refine lin_r (D' := 16191) 13 rfl rfl rfl (by repeat (first | exact Has.here _ | apply Has.there)) (p_load Tryz.isAgg22 (fun _=>rfl) (by rfl)) ?_
     refine lin_eff (l := [6]) (by kernel_rfl) (by kernel_rfl) ?_
     refine each_cons (m := 48) (D' := 16255) (is := [13, 11, 5, 3]) (bs := [true, true, false, true]) (T' := [(13, (_, _)), (11, (_, _)), (3, (_, _))]) rfl (fun _=>rfl) rfl rfl rfl (by kernel_rfl) rfl (w_call (vs := [_]) (fun _=>rfl) Tryz.call9 (fun _=>rfl) rfl (few_mem hsl) (by repeat (first | exact Pull.nil _ | (apply Pull.cons; (focus (repeat (first | exact One.here _ _ | apply One.there))))))) ?hk_1 no_pan ?hl_1
     case hk_1 =>
      rintro _ _ ⟨_, ⟨sf, hf, rfl⟩, rfl⟩
      refine ⟨keep_cons (by repeat (first | exact Has.here _ | apply Has.there)) (keep_cons (by repeat (first | exact Has.here _ | apply Has.there)) (keep_cons (by repeat (first | exact Has.here _ | apply Has.there)) (keep_nil))), ?_⟩
      refine lin_eff (l := [7]) (by kernel_rfl) (by kernel_rfl) ?_
      refine each_cons (m := 127) (D' := 16383) (is := [13, 11, 3]) (bs := [true, true, false]) (T' := [(13, (_, _)), (11, (_, _))]) rfl (fun _=>rfl) rfl rfl rfl (by kernel_rfl) rfl (w_call (vs := [_, _]) (fun _=>rfl) Tryz.call8 (fun _=>rfl) rfl (jr_app_any j d jp dp sj sf sd _ (fewL ls) Tg zg hW hn hJ hR hf (by omega) (by have := few_len ls; omega) few_short) (by repeat (first | exact Pull.nil _ | (apply Pull.cons; (focus (repeat (first | exact One.here _ _ | apply One.there))))))) ?hk_2 no_pan ?hl_2
      case hk_2 =>
       rintro _ _ ⟨_, ⟨sj1, sd1, rfl, hJ1, hR1, rfl⟩, rfl⟩
       refine ⟨keep_cons (by repeat (first | exact Has.here _ | apply Has.there)) (keep_cons (by repeat (first | exact Has.here _ | apply Has.there)) (keep_nil)), ?_⟩
       refine lin_eff (l := [14]) (by kernel_rfl) (by kernel_rfl) ?_
       refine each_cons (m := 12543) (D' := 32767) (is := [13, 11]) (bs := [false, true]) (T' := [(11, (_, _))]) rfl (fun _=>rfl) rfl rfl rfl (by kernel_rfl) rfl (w_call (vs := [_]) (fun _=>rfl) Tryz.call9 (fun _=>rfl) rfl (few_mem hsl) (by repeat (first | exact Pull.nil _ | (apply Pull.cons; (focus (repeat (first | exact One.here _ _ | apply One.there))))))) ?hk_3 no_pan ?hl_3
       case hk_3 =>
        rintro _ _ ⟨_, ⟨sf2, hf2, rfl⟩, rfl⟩
        refine ⟨keep_cons (by repeat (first | exact Has.here _ | apply Has.there)) (keep_nil), ?_⟩
        refine lin_eff (l := [15]) (by kernel_rfl) (by kernel_rfl) ?_
        refine each_cons (m := 32767) (D' := 65535) (is := [11]) (bs := [false]) (T' := []) rfl (fun _=>rfl) rfl rfl rfl (by kernel_rfl) rfl (w_call (vs := [_, _]) (fun _=>rfl) Tryz.call10 (fun _=>rfl) rfl (kr_app_any j d kp rp sk sf2 sr _ (fewL ls) hW hn hK hr hf2 (by omega) (by have := few_len ls; omega) few_short) (by repeat (first | exact Pull.nil _ | (apply Pull.cons; (focus (repeat (first | exact One.here _ _ | apply One.there))))))) ?hk_4 no_pan ?hl_4
        case hk_4 =>
         rintro _ _ ⟨_, ⟨sk1, sr1, rfl, hK1, hr1, rfl⟩, rfl⟩
         refine ⟨keep_nil, ?_⟩
         first | refine lin_v (D' := 131071) 16 (p_eql_nat (fun _=>rfl) (fun _=>rfl)) ?_ | refine lin_v (D' := 131071) 16 (p_eql (fun _=>rfl) (fun _=>rfl)) ?_
         refine lin_v (D' := 262143) 17 (p_assign (fun _=>rfl)) ?_
         refine lin_nil ?_
         refine nx_slots (env' := [(4, _)]) [4] rfl (fun _=>rfl) ?_
         refine nx_next ?_
         refine at_ret ?_
         refine nx_end1 (H' := _) rfl Tryz.results30 (fun _=>rfl) (by exact ⟨_, some _, _, _, sj1, sk1, sd1, sr1, by simp, hW.append (fewL ls) few_short, ⟨jp, rfl, hJ1⟩, ⟨kp, rfl, hK1⟩, hR1, hr1, rfl⟩)
        case hl_4 =>
         exact each_nil
       case hl_3 =>
        exact each_nil
      case hl_2 =>
       exact each_nil
     case hl_1 =>
      exact each_nil

theorem does_any (wp dp rp n k : Nat) (v1 v2 : Value) (d : DiskS) (jo : Option JrS) (sj sk sd sr M : List Chunk) (pa : Addr) (Tx Tg : TypeId) (zx zg : Nat × Nat) (kind nn : Int) (vl vk : Value) (ls : List (List UInt8)) (zs : List Int) (hM : (OpV.mk kind nn vl vk ls zs).ok M) (hn : n ≤ 4194304) (h1n : 1 ≤ n) (hk : k ≤ 900000) (hW : Wok n k d jo) (hR : DiskR d dp sd) (hr : RdR d rp sr) (hJ : JoP jo dp v1 sj) (hK : KoP jo rp v2 sk) : Does Tryz.prog 30 #[.pointer (some ⟨wp, 0, none⟩), .agg #[.int .i64 kind, vl, .int .i64 nn, vk]] [[(wp, .cells #[.pointer (some ⟨dp, 0, none⟩), v1, .pointer (some ⟨rp, 0, none⟩), v2] 32 (0, 0))], sj, sk, sd, sr, [(4, .cells (kTab.map u32v).toArray Tg zg)], [(0, .cells #[.iface 274 (.pointer (some pa))] Tx zx)], M]
      (fun r H' => ∃ d' jo' v1' v2' sj' sk' sd' sr', r = .bool true ∧ Wok n (k + 1) d' jo' ∧ JoP jo' dp v1' sj' ∧ KoP jo' rp v2' sk' ∧ DiskR d' dp sd' ∧ RdR d' rp sr' ∧ H' = [[(wp, .cells #[.pointer (some ⟨dp, 0, none⟩), v1', .pointer (some ⟨rp, 0, none⟩), v2'] 32 (0, 0))], sj', sk', sd', sr', [(4, .cells (kTab.map u32v).toArray Tg zg)], [(0, .cells #[.iface 274 (.pointer (some pa))] Tx zx)], M]) := by
  have hpk := pickN_lt kind 8 (by decide)
  rcases (by omega : pickN kind 8 < 5 ∨ pickN kind 8 = 5 ∨ pickN kind 8 = 6 ∨ pickN kind 8 = 7) with h | h | h | h
  · cases jo with
    | none =>
      obtain ⟨rfl, rfl⟩ := hJ
      obtain ⟨rfl, rfl⟩ := hK
      exact does_flat (by simp) (does_none wp dp rp n k d sd sr M pa Tx Tg zx zg kind nn vl vk ls zs hM hn h1n hk hW hR hr h)
    | some j =>
      obtain ⟨jp, rfl, hJ⟩ := hJ
      obtain ⟨kp, rfl, hK⟩ := hK
      exact does_some wp dp rp n k jp kp d j sj sk sd sr M pa Tx Tg zx zg kind nn vl vk ls zs hM hn h1n hk hW hR hr hJ hK h
  · exact does_cut wp dp rp n k v1 v2 d jo sj sk sd sr M pa Tx Tg zx zg kind nn vl vk ls zs hM hn h1n hk hW hR hr hJ hK h
  · exact does_crash wp dp rp n k v1 v2 d jo sj sk sd sr M pa Tx Tg zx zg kind nn vl vk ls zs hM hn h1n hk hW hR hr hJ hK h
  · exact does_open wp dp rp n k v1 v2 d jo sj sk sd sr M pa Tx Tg zx zg kind nn vl vk ls zs hM hn h1n hk hW hR hr hJ hK h

end Go.Proofs.YtdahnapibeepkaaGreatDoor
