/- journal.Open and the Open of the reference over plain states. The world of chapter 23: open, begin. -/
import Derived.Test.YtdahnapibeepkaaGreatDoorRj2
import Derived.Test.YtdahnapibeepkaaGreatDoorOp4
import Derived.Test.YtdahnapibeepkaaGreatDoorJm6
namespace Go.Proofs.YtdahnapibeepkaaGreatDoor
open Go Go.RowKit Gw
set_option linter.unusedVariables false
set_option maxRecDepth 100000
attribute [local irreducible] Gw.At Gw.Nx Gw.Ops
theorem open_off (dp : Nat) (d : DiskS) (sd : List Chunk) (hR : DiskR d dp sd) (hoff : d.off = true) : DoesR Tryz.prog 24 #[.pointer (some ⟨dp, 0, none⟩)] [sd] (.tuple #[.pointer none, .int .i64 221]) := by
 refine spec_enter Tryz.func24 rfl Tryz.ntmps24 rfl ?_
 intro u R
 refine at_slots (env' := [(0, _)]) [0] rfl (fun _=>rfl) ?_
 refine at_seq ?_
 refine at_region ?_
 refine op_v (p_assign (fun _=>rfl)) ?_
 refine op_v (p_assign (fun _=>rfl)) ?_
 refine ops_nil ?_
 refine nx_next ?_
 refine at_seq ?_
 refine at_seq ?_
 refine at_region ?_
 refine op_v (p_move (fun _=>rfl)) ?_
 first | refine op_v (p_eql_nil_nil Tryz.underlying27 (fun _=>rfl) (fun _=>rfl)) ?_ | refine op_v (p_eql_ptr_nil Tryz.underlying27 (fun _=>rfl) (fun _=>rfl)) ?_
 refine ops_nil ?_
 refine nx_next ?_
 refine at_if_bool (fun _=>rfl) (fun hc1 => ?_) (fun hc1 => ?_)
 ·
  cases hc1
 ·
  refine at_skip ?_
  refine nx_next ?_
  refine at_seq ?_
  refine at_region ?_
  refine op_v (p_move (fun _=>rfl)) ?_
  refine op_v (p_move (fun _=>rfl)) ?_
  refine op_e (w_callR (vs := [_]) (fun _=>rfl) Tryz.call50 (fun _=>rfl) rfl (disk_size d dp sd hR) (by repeat (first | exact Pull.nil _ | (apply Pull.cons; (focus (repeat (first | exact One.here _ _ | apply One.there))))))) (fun _=>rfl) rfl rfl ?_
  rintro _ _ ⟨rfl, rfl⟩
  refine op_e (w_callR (vs := [_, _, _]) (fun _=>rfl) Tryz.call29 (fun _=>rfl) rfl ((by have h := disk_read d dp sd hR 0 d.vi.length (by omega) (by have := hR.1.2.1; omega); rw [hoff] at h; simp only [if_true] at h; exact h : DoesR Tryz.prog 29 #[.pointer (some ⟨dp, 0, none⟩), .int .i64 ((0 : Nat) : Int), .int .i64 (d.vi.length : Int)] [sd] (.tuple #[.string (str []), .int .i64 221]))) (by repeat (first | exact Pull.nil _ | (apply Pull.cons; (focus (repeat (first | exact One.here _ _ | apply One.there))))))) (fun _=>rfl) rfl rfl ?_
  rintro _ _ ⟨rfl, rfl⟩
  refine op_v (p_move (fun _=>rfl)) ?_
  refine op_v (p_extract (fun _=>rfl) rfl) ?_
  refine op_v (p_extract (fun _=>rfl) rfl) ?_
  refine op_v (p_assign (fun _=>rfl)) ?_
  refine op_v (p_assign (fun _=>rfl)) ?_
  refine ops_nil ?_
  refine nx_slots (env' := [(0, _), (4, _), (5, _)]) [0, 4, 5] rfl (fun _=>rfl) ?_
  refine nx_next ?_
  refine at_seq ?_
  refine at_seq ?_
  refine at_region ?_
  refine op_v (p_move (fun _=>rfl)) ?_
  first | refine op_v (p_neq_nat (n := 0) (fun _=>rfl) (fun _=>rfl)) ?_ | refine op_v (p_neq (fun _=>rfl) (fun _=>rfl)) ?_
  refine ops_nil ?_
  refine nx_next ?_
  first | refine at_if (fun _=>rfl) (fun hc2 => ?_) (fun hc2 => ?_) | refine at_if_bool (fun _=>rfl) (fun hc2 => ?_) (fun hc2 => ?_)
  ·
   refine at_seq ?_
   refine at_region ?_
   refine op_v (p_move (fun _=>rfl)) ?_
   refine op_v (p_assign (fun _=>rfl)) ?_
   refine op_v (p_assign (fun _=>rfl)) ?_
   refine ops_nil ?_
   refine nx_next ?_
   refine at_ret ?_
   refine nx_thru (by intro h; cases h) ?_
   refine nx_end2 (H' := _) rfl Tryz.results24 (fun _=>rfl) (fun _=>rfl) (by exact ⟨rfl, rfl⟩)
  ·
   exact absurd (by decide) hc2

theorem ropen_off (rp : Nat) (d : DiskS) (sd : List Chunk) (hR : RdR d rp sd) (hoff : d.off = true) (hk : d.pend.length ≤ 999990) : DoesR Tryz.prog 49 #[.pointer (some ⟨rp, 0, none⟩)] [sd] (.tuple #[.pointer none, .int .i64 221]) := by
 obtain ⟨hok, hco, v0, pv0, sv0, sp0, hr0, hp0, hs0⟩ := id hR
 obtain ⟨b0, c0, hv0⟩ := hr0.form
 rw [List.length_map] at hv0
 subst hv0
 refine spec_enter Tryz.func49 rfl Tryz.ntmps49 rfl ?_
 intro u R
 refine at_slots (env' := [(0, _)]) [0] rfl (fun _=>rfl) ?_
 refine at_seq ?_
 refine at_region ?_
 refine op_v (p_assign (fun _=>rfl)) ?_
 refine op_v (p_assign (fun _=>rfl)) ?_
 refine ops_nil ?_
 refine nx_next ?_
 refine at_seq ?_
 refine at_region ?_
 refine op_v (p_move (fun _=>rfl)) ?_
 refine op_v (p_nilChk (fun _=>rfl) rfl) ?_
 refine op_v (p_fieldAddr0 (off := 0) Tryz.underlying77 rfl rfl Tryz.sizeOf39 (fun _=>rfl)) ?_
 refine op_rm (cs := [(rp, .cells #[.slice b0 d.du.length c0, pv0, .bool d.off, .int .i64 (d.left : Int)] 77 (0, 0))]) (by simp [hs0]) (p_load Tryz.isAgg39 (fun _=>rfl) rfl) rfl rfl ?_
 refine op_v (p_len_slice Tryz.underlying39 (fun _=>rfl)) ?_
 refine op_v (p_assign (fun _=>rfl)) ?_
 refine ops_nil ?_
 refine nx_next ?_
 refine at_seq ?_
 rw [hok.1]
 refine at_region ?_
 refine op_v (p_move (fun _=>rfl)) ?_
 refine op_v (p_move (fun _=>rfl)) ?_
 refine op_e (w_callR (vs := [_, _, _]) (fun _=>rfl) Tryz.call75 (fun _=>rfl) rfl ((by have h := rd_read d rp sd hR 0 d.vi.length (by omega) (by have := hok.2.1; omega) (by omega); rw [hoff] at h; simp only [if_true] at h; exact h : DoesR Tryz.prog 75 #[.pointer (some ⟨rp, 0, none⟩), .int .i64 ((0 : Nat) : Int), .int .i64 (d.vi.length : Int)] [sd] (.tuple #[.string (str []), .int .i64 221]))) (by repeat (first | exact Pull.nil _ | (apply Pull.cons; (focus (repeat (first | exact One.here _ _ | apply One.there))))))) (fun _=>rfl) rfl rfl ?_
 rintro _ _ ⟨rfl, rfl⟩
 refine op_v (p_move (fun _=>rfl)) ?_
 refine op_v (p_extract (fun _=>rfl) rfl) ?_
 refine op_v (p_extract (fun _=>rfl) rfl) ?_
 refine op_v (p_assign (fun _=>rfl)) ?_
 refine op_v (p_assign (fun _=>rfl)) ?_
 refine ops_nil ?_
 refine nx_slots (env' := [(0, _), (4, _), (5, _), (6, _)]) [0, 4, 5, 6] rfl (fun _=>rfl) ?_
 refine nx_next ?_
 refine at_seq ?_
 refine at_seq ?_
 refine at_region ?_
 refine op_v (p_move (fun _=>rfl)) ?_
 first | refine op_v (p_neq_nat (n := 0) (fun _=>rfl) (fun _=>rfl)) ?_ | refine op_v (p_neq (fun _=>rfl) (fun _=>rfl)) ?_
 refine ops_nil ?_
 refine nx_next ?_
 first | refine at_if (fun _=>rfl) (fun hc1 => ?_) (fun hc1 => ?_) | refine at_if_bool (fun _=>rfl) (fun hc1 => ?_) (fun hc1 => ?_)
 ·
  refine at_seq ?_
  refine at_region ?_
  refine op_v (p_move (fun _=>rfl)) ?_
  refine op_v (p_assign (fun _=>rfl)) ?_
  refine op_v (p_assign (fun _=>rfl)) ?_
  refine ops_nil ?_
  refine nx_next ?_
  refine at_ret ?_
  refine nx_thru (by intro h; cases h) ?_
  refine nx_end2 (H' := _) rfl Tryz.results49 (fun _=>rfl) (fun _=>rfl) (by exact ⟨rfl, rfl⟩)
 ·
  exact absurd (by decide) hc1

/-- What Open makes of a disk: the code, the journal, the disk. -/
def DiskS.openJ (d : DiskS) : Int × Option JrS × DiskS :=
  if d.off then (221, none, d) else
  match loadL d.vi (d.vi.length + 1) [] zero32 0 with
  | none => (232, none, d)
  | some (rs, h, sz) => if d.vi.drop sz = List.replicate (d.vi.length - sz) 0 then (0, some ⟨rs, h, sz, false⟩, d) else
    if (d.zero sz).1 = 0 then (0, some ⟨rs, h, sz, false⟩, (d.zero sz).2) else ((d.zero sz).1, none, (d.zero sz).2)
def JoP (jo : Option JrS) (dp : Nat) (v : Value) (s : List Chunk) : Prop :=
  match jo with
  | none => v = .pointer none ∧ s = []
  | some j => ∃ jp, v = .pointer (some ⟨jp, 0, none⟩) ∧ JrR j jp dp s
def KoP (jo : Option JrS) (rp : Nat) (v : Value) (s : List Chunk) : Prop :=
  match jo with
  | none => v = .pointer none ∧ s = []
  | some j => ∃ kp, v = .pointer (some ⟨kp, 0, none⟩) ∧ KrR j kp rp s
theorem zeros_iff (l : List UInt8) (n : Nat) (h : l.length = n) : (∀ x ∈ l, x = 0) ↔ l = List.replicate n 0 := by
  rw [List.eq_replicate_iff]; exact ⟨fun h2 => ⟨h, h2⟩, fun h2 => h2.2⟩
theorem popen_any (d : DiskS) (dp : Nat) (sd : List Chunk) (pa : Addr) (Tx Tg : TypeId) (zx zg : Nat × Nat) (hR : DiskR d dp sd) (hk : d.pend.length ≤ 999990) :
    Does Tryz.prog 24 #[.pointer (some ⟨dp, 0, none⟩)] [sd, [(4, .cells (kTab.map u32v).toArray Tg zg)], [(0, .cells #[.iface 274 (.pointer (some pa))] Tx zx)]] (fun r H' => ∃ v sj sd', JoP d.openJ.2.1 dp v sj ∧ DiskR d.openJ.2.2 dp sd' ∧ r = .tuple #[v, .int .i64 d.openJ.1] ∧ H' = [sj, sd', [(4, .cells (kTab.map u32v).toArray Tg zg)], [(0, .cells #[.iface 274 (.pointer (some pa))] Tx zx)]]) := by
  have hvi : d.vi.length ≤ 4194304 := hR.1.2.2.1
  cases hoff : d.off with
  | true =>
    have e : d.openJ = (221, none, d) := by unfold DiskS.openJ; rw [if_pos hoff]
    rw [e]
    refine does_mono (does_frame (open_off dp d sd hR hoff) [[(4, .cells (kTab.map u32v).toArray Tg zg)], [(0, .cells #[.iface 274 (.pointer (some pa))] Tx zx)]] (by simp)) ?_
    rintro r _ ⟨H2, ⟨rfl, rfl⟩, rfl⟩
    exact ⟨_, ⟨_, [], sd, ⟨rfl, rfl⟩, hR, rfl, rfl⟩, by simp⟩
  | false =>
    cases hl : loadL d.vi (d.vi.length + 1) [] zero32 0 with
    | none =>
      have e : d.openJ = (232, none, d) := by unfold DiskS.openJ; rw [if_neg (by rw [hoff]; simp), hl]
      rw [e]
      refine does_mono (open_damaged dp d sd pa Tx Tg zx zg hR hoff hl) ?_
      rintro r _ ⟨rfl, rfl⟩
      exact ⟨_, ⟨_, [], sd, ⟨rfl, rfl⟩, hR, rfl, rfl⟩, by simp⟩
    | some p =>
      obtain ⟨rs, h, sz⟩ := p
      by_cases hz : ∀ x ∈ d.vi.drop sz, x = 0
      · have e : d.openJ = (0, some ⟨rs, h, sz, false⟩, d) := by
          unfold DiskS.openJ; rw [if_neg (by rw [hoff]; simp), hl]; simp only
          rw [if_pos ((zeros_iff _ _ (by rw [List.length_drop])).1 hz)]
        rw [e]
        refine does_mono (open_clean dp d sd pa Tx Tg zx zg hR hoff rs h sz hl hz) ?_
        rintro r _ ⟨v, sr, jp, g1, g2, g3, g4, rfl, rfl⟩
        exact ⟨_, ⟨_, _, sd, ⟨jp, rfl, g1, by simp only; omega, v, sr, g4, rfl⟩, hR, rfl, rfl⟩, by simp⟩
      · have hz2 : ¬ d.vi.drop sz = List.replicate (d.vi.length - sz) 0 := fun h9 => hz ((zeros_iff _ _ (by rw [List.length_drop])).2 h9)
        refine does_mono (open_tail dp d sd pa Tx Tg zx zg hR hoff hk rs h sz hl hz) ?_
        rintro r _ ⟨v, sr, jp, sd', g1, g2, g3, g4, hR', ⟨h0, rfl, rfl⟩ | ⟨h0, rfl, rfl⟩⟩
        · have e : d.openJ = (0, some ⟨rs, h, sz, false⟩, (d.zero sz).2) := by
            unfold DiskS.openJ; rw [if_neg (by rw [hoff]; simp), hl]; simp only
            rw [if_neg hz2, if_pos h0]
          rw [e]
          exact ⟨_, ⟨_, _, sd', ⟨jp, rfl, g1, by simp only; omega, v, sr, g4, rfl⟩, hR', rfl, rfl⟩, by simp⟩
        · have e : d.openJ = ((d.zero sz).1, none, (d.zero sz).2) := by
            unfold DiskS.openJ; rw [if_neg (by rw [hoff]; simp), hl]; simp only
            rw [if_neg hz2, if_neg h0]
          rw [e]
          exact ⟨_, ⟨_, [], sd', ⟨rfl, rfl⟩, hR', rfl, rfl⟩, by simp⟩
theorem kopen_any (d : DiskS) (rp : Nat) (sd : List Chunk) (hR : RdR d rp sd) (hk : d.pend.length ≤ 999990) :
    Does Tryz.prog 49 #[.pointer (some ⟨rp, 0, none⟩)] [sd] (fun r H' => ∃ v sk sd', KoP d.openJ.2.1 rp v sk ∧ RdR d.openJ.2.2 rp sd' ∧ r = .tuple #[v, .int .i64 d.openJ.1] ∧ H' = [sk, sd']) := by
  have hvi : d.vi.length ≤ 4194304 := hR.1.2.2.1
  cases hoff : d.off with
  | true =>
    have e : d.openJ = (221, none, d) := by unfold DiskS.openJ; rw [if_pos hoff]
    rw [e]
    refine does_mono (ropen_off rp d sd hR hoff hk) ?_
    rintro r _ ⟨rfl, rfl⟩
    exact ⟨_, ⟨_, [], sd, ⟨rfl, rfl⟩, hR, rfl, rfl⟩, by simp⟩
  | false =>
    refine does_mono (ropen_on rp d sd hR hoff hk) ?_
    rintro r _ (⟨hl, rfl, rfl⟩ | ⟨rs, h, sz, v, sr, kp, hl, hh, g2, g3, g5, g4, ⟨hz, rfl, rfl⟩ | ⟨hz, sd', hR', ⟨h0, rfl, rfl⟩ | ⟨h0, rfl, rfl⟩⟩⟩)
    · have e : d.openJ = (232, none, d) := by unfold DiskS.openJ; rw [if_neg (by rw [hoff]; simp), hl]
      rw [e]
      exact ⟨_, ⟨_, [], sd, ⟨rfl, rfl⟩, hR, rfl, rfl⟩, by simp⟩
    · have e : d.openJ = (0, some ⟨rs, h, sz, false⟩, d) := by
        unfold DiskS.openJ; rw [if_neg (by rw [hoff]; simp), hl]; simp only
        rw [if_pos hz]
      rw [e]
      exact ⟨_, ⟨_, _, sd, ⟨kp, rfl, hh, by simp only; omega, g5, v, sr, g4, rfl⟩, hR, rfl, rfl⟩, by simp⟩
    · have e : d.openJ = (0, some ⟨rs, h, sz, false⟩, (d.zero sz).2) := by
        unfold DiskS.openJ; rw [if_neg (by rw [hoff]; simp), hl]; simp only
        rw [if_neg hz, if_pos h0]
      rw [e]
      exact ⟨_, ⟨_, _, sd', ⟨kp, rfl, hh, by simp only; omega, g5, v, sr, g4, rfl⟩, hR', rfl, rfl⟩, by simp⟩
    · have e : d.openJ = ((d.zero sz).1, none, (d.zero sz).2) := by
        unfold DiskS.openJ; rw [if_neg (by rw [hoff]; simp), hl]; simp only
        rw [if_neg hz, if_neg h0]
      rw [e]
      exact ⟨_, ⟨_, [], sd', ⟨rfl, rfl⟩, hR', rfl, rfl⟩, by simp⟩
theorem openJ_code (d : DiskS) : (∃ j, d.openJ.2.1 = some j ∧ d.openJ.1 = 0) ∨ (d.openJ.2.1 = none ∧ d.openJ.1 ≠ 0) := by
  unfold DiskS.openJ
  split
  · exact .inr ⟨rfl, by show (221 : Int) ≠ 0; decide⟩
  · split
    · exact .inr ⟨rfl, by show (232 : Int) ≠ 0; decide⟩
    · split
      · exact .inl ⟨_, rfl, rfl⟩
      · split
        · exact .inl ⟨_, rfl, rfl⟩
        · rename_i h; exact .inr ⟨rfl, h⟩
theorem zero_keep (d : DiskS) (sz : Nat) (hz : sz ≤ d.vi.length) : (d.zero sz).2.vi.length = d.vi.length ∧ (d.zero sz).2.pend.length ≤ d.pend.length + 1 := by
  have h1 := write_len d sz (List.replicate (d.vi.length - sz) 0) (by rw [List.length_replicate]; omega)
  have h2 := write_pend d sz (List.replicate (d.vi.length - sz) 0)
  unfold DiskS.zero
  simp only
  split
  · exact ⟨h1, h2⟩
  · have := sync_pend (d.write sz (List.replicate (d.vi.length - sz) 0)).2
    exact ⟨by rw [sync_len]; exact h1, by omega⟩
theorem zero_on (d : DiskS) (sz : Nat) (ho : d.off = false) (hl : d.left = 0) : (d.zero sz).1 = 0 ∧ (d.zero sz).2.off = false ∧ (d.zero sz).2.left = 0 := by
  obtain ⟨off, left, du, vi, pend⟩ := d
  simp only at ho hl
  subst ho hl
  simp [DiskS.zero, DiskS.write, DiskS.sync, usedOff, usedLeft]
theorem load_sz {s : List UInt8} : ∀ (f : Nat) (rs : List (List UInt8)) (h : List UInt8) (sz : Nat) (rs' : List (List UInt8)) (h' : List UInt8) (sz' : Nat), loadL s f rs h sz = some (rs', h', sz') → sz ≤ s.length → sz' ≤ s.length
  | 0, rs, h, sz, rs', h', sz', hl, hz => by
    simp only [loadL, Option.some.injEq, Prod.mk.injEq] at hl
    omega
  | f + 1, rs, h, sz, rs', h', sz', hl, hz => by
    rw [loadL] at hl
    split at hl
    · simp only [Option.some.injEq, Prod.mk.injEq] at hl; omega
    · split at hl
      · simp only [Option.some.injEq, Prod.mk.injEq] at hl; omega
      · split at hl
        · split at hl
          · cases hl
          · split at hl
            · rename_i r k hd hc
              have hda := decS_at hd
              have h6 := congrArg List.length hc.2
              rw [List.length_take, List.length_drop] at h6
              exact load_sz f _ _ _ rs' h' sz' hl (by omega)
            · cases hl
        · cases hl
theorem openJ_keep (d : DiskS) : d.openJ.2.2.vi.length = d.vi.length ∧ d.openJ.2.2.pend.length ≤ d.pend.length + 1 ∧ (∀ j, d.openJ.2.1 = some j → j.br = false ∧ j.sz ≤ d.vi.length) ∧ (d.off = false → d.left = 0 → d.openJ.2.2.off = false ∧ d.openJ.2.2.left = 0) := by
  unfold DiskS.openJ
  split
  · exact ⟨rfl, Nat.le_succ _, fun j hj => (by cases hj), fun h1 _ => absurd (h1.symm.trans (by assumption : d.off = true)) (by decide)⟩
  · split
    · exact ⟨rfl, Nat.le_succ _, fun j hj => (by cases hj), fun h1 h2 => ⟨h1, h2⟩⟩
    · rename_i rs h sz hl
      have hz := load_sz _ _ _ _ _ _ _ hl (Nat.zero_le _)
      have hk := zero_keep d sz hz
      split
      · exact ⟨rfl, Nat.le_succ _, fun j hj => (by cases hj; exact ⟨rfl, hz⟩), fun h1 h2 => ⟨h1, h2⟩⟩
      · split
        · exact ⟨hk.1, hk.2, fun j hj => (by cases hj; exact ⟨rfl, hz⟩), fun h1 h2 => (zero_on d sz h1 h2).2⟩
        · exact ⟨hk.1, hk.2, fun j hj => (by cases hj), fun h1 h2 => (zero_on d sz h1 h2).2⟩
theorem openJ_new (n : Nat) (h : 1 ≤ n) : (DiskS.new n).openJ = (0, some ⟨[], zero32, 0, false⟩, DiskS.new n) := by
  have hl := (JD.new n h).load.1
  simp only at hl
  unfold DiskS.openJ
  rw [if_neg (by show ¬ false = true; simp), hl]
  simp only
  rw [if_pos (by simp [DiskS.new])]

theorem wopen_some (wp dp rp : Nat) (v1 v2 : Value) (d : DiskS) (sd sr : List Chunk) (pa : Addr) (Tx Tg : TypeId) (zx zg : Nat × Nat) (hR : DiskR d dp sd) (hr : RdR d rp sr) (hk : d.pend.length ≤ 999990) (j : JrS) (hj : d.openJ.2.1 = some j) (he : d.openJ.1 = 0) : Does Tryz.prog 15 #[.pointer (some ⟨wp, 0, none⟩)] [[(wp, .cells #[.pointer (some ⟨dp, 0, none⟩), v1, .pointer (some ⟨rp, 0, none⟩), v2] 32 (0, 0))], sd, sr, [(4, .cells (kTab.map u32v).toArray Tg zg)], [(0, .cells #[.iface 274 (.pointer (some pa))] Tx zx)]]
      (fun r H' => ∃ jp kp sj sk sd' sr', r = .bool true ∧ JrR j jp dp sj ∧ KrR j kp rp sk ∧ DiskR d.openJ.2.2 dp sd' ∧ RdR d.openJ.2.2 rp sr' ∧ H' = [[(wp, .cells #[.pointer (some ⟨dp, 0, none⟩), .pointer (some ⟨jp, 0, none⟩), .pointer (some ⟨rp, 0, none⟩), .pointer (some ⟨kp, 0, none⟩)] 32 (0, 0))], sj, sk, sd', sr', [(4, .cells (kTab.map u32v).toArray Tg zg)], [(0, .cells #[.iface 274 (.pointer (some pa))] Tx zx)]]) := by
 refine spec_enter Tryz.func15 rfl Tryz.ntmps15 rfl ?_
 intro u R
 refine at_slots (env' := [(0, _)]) [0] rfl (fun _=>rfl) ?_
 refine at_seq ?_
 refine at_region ?_
 refine op_v (p_assign (fun _=>rfl)) ?_
 refine ops_nil ?_
 refine nx_next ?_
 refine at_seq ?_
 refine at_region ?_
 refine op_v (p_move (fun _=>rfl)) ?_
 refine op_v (p_nilChk (fun _=>rfl) rfl) ?_
 refine op_v (p_fieldAddr0 (off := 0) Tryz.underlying32 rfl rfl Tryz.sizeOf27 (fun _=>rfl)) ?_
 refine op_r (by repeat (first | exact Has.here _ | apply Has.there)) (p_load Tryz.isAgg27 (fun _=>rfl) (by rfl)) rfl rfl ?_
 refine ops_eff (fun _=>rfl) (fits_of rfl) rfl (w_call (vs := [_]) (fun _=>rfl) Tryz.call24 (fun _=>rfl) rfl (popen_any d dp sd pa Tx Tg zx zg hR hk) (by repeat (first | exact Pull.nil _ | (apply Pull.cons; (focus (repeat (first | exact One.here _ _ | apply One.there))))))) ?_ no_pan
 rintro _ _ ⟨_, ⟨v1, sj, sd2, hJ, hR2, rfl, rfl⟩, rfl⟩
 rw [hj] at hJ
 obtain ⟨jp, rfl, hJ⟩ := hJ
 rw [he]
 refine op_v (p_move (fun _=>rfl)) ?_
 refine op_v (p_extract (fun _=>rfl) rfl) ?_
 refine op_v (p_extract (fun _=>rfl) rfl) ?_
 refine op_v (p_assign (fun _=>rfl)) ?_
 refine op_v (p_assign (fun _=>rfl)) ?_
 refine ops_nil ?_
 refine nx_next ?_
 refine at_seq ?_
 refine at_region ?_
 refine op_v (p_move (fun _=>rfl)) ?_
 refine op_v (p_nilChk (fun _=>rfl) rfl) ?_
 refine op_v (p_fieldAddr0 (off := 2) Tryz.underlying32 rfl rfl Tryz.sizeOf29 (fun _=>rfl)) ?_
 refine op_r (by repeat (first | exact Has.here _ | apply Has.there)) (p_load Tryz.isAgg29 (fun _=>rfl) (by rfl)) rfl rfl ?_
 refine ops_eff (fun _=>rfl) (fits_of rfl) rfl (w_call (vs := [_]) (fun _=>rfl) Tryz.call49 (fun _=>rfl) rfl (kopen_any d rp sr hr hk) (by repeat (first | exact Pull.nil _ | (apply Pull.cons; (focus (repeat (first | exact One.here _ _ | apply One.there))))))) ?_ no_pan
 rintro _ _ ⟨_, ⟨v2, sk, sr2, hK, hr2, rfl, rfl⟩, rfl⟩
 rw [hj] at hK
 obtain ⟨kp, rfl, hK⟩ := hK
 rw [he]
 refine op_v (p_move (fun _=>rfl)) ?_
 refine op_v (p_extract (fun _=>rfl) rfl) ?_
 refine op_v (p_extract (fun _=>rfl) rfl) ?_
 refine op_v (p_assign (fun _=>rfl)) ?_
 refine op_v (p_assign (fun _=>rfl)) ?_
 refine ops_nil ?_
 refine nx_slots (env' := [(0, _), (3, _), (4, _), (5, _), (6, _)]) [0, 3, 4, 5, 6] rfl (fun _=>rfl) ?_
 refine nx_next ?_
 refine at_seq ?_
 refine at_region ?_
 refine op_v (p_move (fun _=>rfl)) ?_
 refine op_v (p_move (fun _=>rfl)) ?_
 refine op_v (p_nilChk (fun _=>rfl) rfl) ?_
 refine op_v (p_fieldAddr0 (off := 1) Tryz.underlying32 rfl rfl Tryz.sizeOf28 (fun _=>rfl)) ?_
 refine op_e (w_store Tryz.sizeOf28 (fun _=>rfl) (fun _=>rfl) rfl (by repeat (first | exact Upd.here _ | apply Upd.there)) (by rfl) (by first | decide | exact Nat.le_refl _ | (simp; done) | (simp; omega)) (by exact free_zero _)) (fun _=>rfl) rfl rfl ?_
 rintro _ _ ⟨rfl, rfl⟩
 refine ops_nil ?_
 refine nx_next ?_
 refine at_seq ?_
 refine at_region ?_
 refine op_v (p_move (fun _=>rfl)) ?_
 refine op_v (p_move (fun _=>rfl)) ?_
 refine op_v (p_nilChk (fun _=>rfl) rfl) ?_
 refine op_v (p_fieldAddr0 (off := 3) Tryz.underlying32 rfl rfl Tryz.sizeOf30 (fun _=>rfl)) ?_
 refine op_e (w_store Tryz.sizeOf30 (fun _=>rfl) (fun _=>rfl) rfl (by repeat (first | exact Upd.here _ | apply Upd.there)) (by rfl) (by first | decide | exact Nat.le_refl _ | (simp; done) | (simp; omega)) (by exact free_zero _)) (fun _=>rfl) rfl rfl ?_
 rintro _ _ ⟨rfl, rfl⟩
 refine ops_nil ?_
 refine nx_next ?_
 refine at_seq ?_
 refine at_region ?_
 refine op_v (p_move (fun _=>rfl)) ?_
 refine op_v (p_move (fun _=>rfl)) ?_
 first | refine op_v (p_eql_nat (fun _=>rfl) (fun _=>rfl)) ?_ | refine op_v (p_eql (fun _=>rfl) (fun _=>rfl)) ?_
 refine op_v (p_move (fun _=>rfl)) ?_
 first | refine ops_split (t := 34) (fun _=>rfl) rfl (fun hg1 => ?_) (fun hg1 => ?_) | refine ops_split_bool (t := 34) (fun _=>rfl) rfl (fun hg1 => ?_) (fun hg1 => ?_)
 ·
  refine op_wg (fun _=>rfl) (p_move (fun _=>rfl)) rfl rfl ?_
  first | refine op_wg (fun _=>rfl) (p_neq_nat (n := 0) (fun _=>rfl) (fun _=>rfl)) rfl rfl ?_ | refine op_wg (fun _=>rfl) (p_neq (fun _=>rfl) (fun _=>rfl)) rfl rfl ?_
  refine op_wg (fun _=>rfl) (p_move (fun _=>rfl)) rfl rfl ?_
  first | refine op_wg (fun _=>rfl) (p_eql_nil_nil Tryz.underlying28 (fun _=>rfl) (fun _=>rfl)) rfl rfl ?_ | refine op_wg (fun _=>rfl) (p_eql_ptr_nil Tryz.underlying28 (fun _=>rfl) (fun _=>rfl)) rfl rfl ?_
  refine op_wg (fun _=>rfl) (p_eql_bool Tryz.underlying4 (fun _=>rfl) (fun _=>rfl)) rfl rfl ?_
  refine op_v (p_pick_t (fun _=>rfl) (fun _=>rfl)) ?_
  refine op_v (p_assign (fun _=>rfl)) ?_
  refine ops_nil ?_
  refine nx_slots (env' := [(2, _)]) [2] rfl (fun _=>rfl) ?_
  refine nx_next ?_
  refine at_ret ?_
  refine nx_end1 (H' := _) rfl Tryz.results15 (fun _=>rfl) (by exact ⟨jp, kp, sj, sk, sd2, sr2, by simp, hJ, hK, hR2, hr2, rfl⟩)
 ·
  exfalso; first | exact hg1 rfl | (cases hg1; done) | contradiction | omega | (simp at hg1; omega) | (simp_all; done) | (simp_all; omega)

theorem wopen_none (wp dp rp : Nat) (v1 v2 : Value) (d : DiskS) (sd sr : List Chunk) (pa : Addr) (Tx Tg : TypeId) (zx zg : Nat × Nat) (hR : DiskR d dp sd) (hr : RdR d rp sr) (hk : d.pend.length ≤ 999990) (hj : d.openJ.2.1 = none) (he : d.openJ.1 ≠ 0) : Does Tryz.prog 15 #[.pointer (some ⟨wp, 0, none⟩)] [[(wp, .cells #[.pointer (some ⟨dp, 0, none⟩), v1, .pointer (some ⟨rp, 0, none⟩), v2] 32 (0, 0))], sd, sr, [(4, .cells (kTab.map u32v).toArray Tg zg)], [(0, .cells #[.iface 274 (.pointer (some pa))] Tx zx)]]
      (fun r H' => ∃ sd' sr', r = .bool true ∧ DiskR d.openJ.2.2 dp sd' ∧ RdR d.openJ.2.2 rp sr' ∧ H' = [[(wp, .cells #[.pointer (some ⟨dp, 0, none⟩), .pointer none, .pointer (some ⟨rp, 0, none⟩), .pointer none] 32 (0, 0))], sd', sr', [(4, .cells (kTab.map u32v).toArray Tg zg)], [(0, .cells #[.iface 274 (.pointer (some pa))] Tx zx)]]) := by
 refine spec_enter Tryz.func15 rfl Tryz.ntmps15 rfl ?_
 intro u R
 refine at_slots (env' := [(0, _)]) [0] rfl (fun _=>rfl) ?_
 refine at_seq ?_
 refine at_region ?_
 refine op_v (p_assign (fun _=>rfl)) ?_
 refine ops_nil ?_
 refine nx_next ?_
 refine at_seq ?_
 refine at_region ?_
 refine op_v (p_move (fun _=>rfl)) ?_
 refine op_v (p_nilChk (fun _=>rfl) rfl) ?_
 refine op_v (p_fieldAddr0 (off := 0) Tryz.underlying32 rfl rfl Tryz.sizeOf27 (fun _=>rfl)) ?_
 refine op_r (by repeat (first | exact Has.here _ | apply Has.there)) (p_load Tryz.isAgg27 (fun _=>rfl) (by rfl)) rfl rfl ?_
 refine ops_eff (fun _=>rfl) (fits_of rfl) rfl (w_call (vs := [_]) (fun _=>rfl) Tryz.call24 (fun _=>rfl) rfl (popen_any d dp sd pa Tx Tg zx zg hR hk) (by repeat (first | exact Pull.nil _ | (apply Pull.cons; (focus (repeat (first | exact One.here _ _ | apply One.there))))))) ?_ no_pan
 rintro _ _ ⟨_, ⟨v1, sj, sd2, hJ, hR2, rfl, rfl⟩, rfl⟩
 rw [hj] at hJ
 obtain ⟨rfl, rfl⟩ := hJ
 refine op_v (p_move (fun _=>rfl)) ?_
 refine op_v (p_extract (fun _=>rfl) rfl) ?_
 refine op_v (p_extract (fun _=>rfl) rfl) ?_
 refine op_v (p_assign (fun _=>rfl)) ?_
 refine op_v (p_assign (fun _=>rfl)) ?_
 refine ops_nil ?_
 refine nx_next ?_
 refine at_seq ?_
 refine at_region ?_
 refine op_v (p_move (fun _=>rfl)) ?_
 refine op_v (p_nilChk (fun _=>rfl) rfl) ?_
 refine op_v (p_fieldAddr0 (off := 2) Tryz.underlying32 rfl rfl Tryz.sizeOf29 (fun _=>rfl)) ?_
 refine op_r (by repeat (first | exact Has.here _ | apply Has.there)) (p_load Tryz.isAgg29 (fun _=>rfl) (by rfl)) rfl rfl ?_
 refine ops_eff (fun _=>rfl) (fits_of rfl) rfl (w_call (vs := [_]) (fun _=>rfl) Tryz.call49 (fun _=>rfl) rfl (kopen_any d rp sr hr hk) (by repeat (first | exact Pull.nil _ | (apply Pull.cons; (focus (repeat (first | exact One.here _ _ | apply One.there))))))) ?_ no_pan
 rintro _ _ ⟨_, ⟨v2, sk, sr2, hK, hr2, rfl, rfl⟩, rfl⟩
 rw [hj] at hK
 obtain ⟨rfl, rfl⟩ := hK
 refine op_v (p_move (fun _=>rfl)) ?_
 refine op_v (p_extract (fun _=>rfl) rfl) ?_
 refine op_v (p_extract (fun _=>rfl) rfl) ?_
 refine op_v (p_assign (fun _=>rfl)) ?_
 refine op_v (p_assign (fun _=>rfl)) ?_
 refine ops_nil ?_
 refine nx_slots (env' := [(0, _), (3, _), (4, _), (5, _), (6, _)]) [0, 3, 4, 5, 6] rfl (fun _=>rfl) ?_
 refine nx_next ?_
 refine at_seq ?_
 refine at_region ?_
 refine op_v (p_move (fun _=>rfl)) ?_
 refine op_v (p_move (fun _=>rfl)) ?_
 refine op_v (p_nilChk (fun _=>rfl) rfl) ?_
 refine op_v (p_fieldAddr0 (off := 1) Tryz.underlying32 rfl rfl Tryz.sizeOf28 (fun _=>rfl)) ?_
 refine op_e (w_store Tryz.sizeOf28 (fun _=>rfl) (fun _=>rfl) rfl (by repeat (first | exact Upd.here _ | apply Upd.there)) (by rfl) (by first | decide | exact Nat.le_refl _ | (simp; done) | (simp; omega)) (by exact free_zero _)) (fun _=>rfl) rfl rfl ?_
 rintro _ _ ⟨rfl, rfl⟩
 refine ops_nil ?_
 refine nx_next ?_
 refine at_seq ?_
 refine at_region ?_
 refine op_v (p_move (fun _=>rfl)) ?_
 refine op_v (p_move (fun _=>rfl)) ?_
 refine op_v (p_nilChk (fun _=>rfl) rfl) ?_
 refine op_v (p_fieldAddr0 (off := 3) Tryz.underlying32 rfl rfl Tryz.sizeOf30 (fun _=>rfl)) ?_
 refine op_e (w_store Tryz.sizeOf30 (fun _=>rfl) (fun _=>rfl) rfl (by repeat (first | exact Upd.here _ | apply Upd.there)) (by rfl) (by first | decide | exact Nat.le_refl _ | (simp; done) | (simp; omega)) (by exact free_zero _)) (fun _=>rfl) rfl rfl ?_
 rintro _ _ ⟨rfl, rfl⟩
 refine ops_nil ?_
 refine nx_next ?_
 refine at_seq ?_
 refine at_region ?_
 refine op_v (p_move (fun _=>rfl)) ?_
 refine op_v (p_move (fun _=>rfl)) ?_
 first | refine op_v (p_eql_nat (fun _=>rfl) (fun _=>rfl)) ?_ | refine op_v (p_eql (fun _=>rfl) (fun _=>rfl)) ?_
 refine op_v (p_move (fun _=>rfl)) ?_
 first | refine ops_split (t := 34) (fun _=>rfl) rfl (fun hg1 => ?_) (fun hg1 => ?_) | refine ops_split_bool (t := 34) (fun _=>rfl) rfl (fun hg1 => ?_) (fun hg1 => ?_)
 ·
  refine op_wg (fun _=>rfl) (p_move (fun _=>rfl)) rfl rfl ?_
  first | refine op_wg (fun _=>rfl) (p_neq_nat (n := 0) (fun _=>rfl) (fun _=>rfl)) rfl rfl ?_ | refine op_wg (fun _=>rfl) (p_neq (fun _=>rfl) (fun _=>rfl)) rfl rfl ?_
  refine op_wg (fun _=>rfl) (p_move (fun _=>rfl)) rfl rfl ?_
  first | refine op_wg (fun _=>rfl) (p_eql_nil_nil Tryz.underlying28 (fun _=>rfl) (fun _=>rfl)) rfl rfl ?_ | refine op_wg (fun _=>rfl) (p_eql_ptr_nil Tryz.underlying28 (fun _=>rfl) (fun _=>rfl)) rfl rfl ?_
  refine op_wg (fun _=>rfl) (p_eql_bool Tryz.underlying4 (fun _=>rfl) (fun _=>rfl)) rfl rfl ?_
  refine op_v (p_pick_t (fun _=>rfl) (fun _=>rfl)) ?_
  refine op_v (p_assign (fun _=>rfl)) ?_
  refine ops_nil ?_
  refine nx_slots (env' := [(2, _)]) [2] rfl (fun _=>rfl) ?_
  refine nx_next ?_
  refine at_ret ?_
  refine nx_end1 (H' := _) rfl Tryz.results15 (fun _=>rfl) (by exact ⟨sd2, sr2, by simp [he], hR2, hr2, rfl⟩)
 ·
  exfalso; first | exact hg1 rfl | (cases hg1; done) | contradiction | omega | (simp at hg1; omega) | (simp_all; done) | (simp_all; omega)

theorem wbegin (n : Int) (h1 : -9223372036854775808 ≤ n) (h2 : n ≤ 9223372036854775807) (pa : Addr) (Tx Tg : TypeId) (zx zg : Nat × Nat) : Does Tryz.prog 7 #[.int .i64 n] [[(4, .cells (kTab.map u32v).toArray Tg zg)], [(0, .cells #[.iface 274 (.pointer (some pa))] Tx zx)]]
      (fun r H' => ∃ wp dp rp jp kp sj sk sd sr, r = .tuple #[.pointer (some ⟨wp, 0, none⟩), .bool true] ∧ JrR ⟨[], zero32, 0, false⟩ jp dp sj ∧ KrR ⟨[], zero32, 0, false⟩ kp rp sk ∧ DiskR (DiskS.new (sizeN n)) dp sd ∧ RdR (DiskS.new (sizeN n)) rp sr ∧ H' = [[(wp, .cells #[.pointer (some ⟨dp, 0, none⟩), .pointer (some ⟨jp, 0, none⟩), .pointer (some ⟨rp, 0, none⟩), .pointer (some ⟨kp, 0, none⟩)] 32 (0, 0))], sj, sk, sd, sr, [(4, .cells (kTab.map u32v).toArray Tg zg)], [(0, .cells #[.iface 274 (.pointer (some pa))] Tx zx)]]) := by
 have hsz0 : sizeN n = 1 + pickN n 1500 := rfl
 have hsz1 := pickN_lt n 1500 (by decide)
 have hon := openJ_new (sizeN n) (by omega)
 refine spec_enter Tryz.func7 rfl Tryz.ntmps7 rfl ?_
 intro u R
 refine at_slots (env' := [(0, _)]) [0] rfl (fun _=>rfl) ?_
 refine at_seq ?_
 refine at_region ?_
 refine op_v (p_assign (fun _=>rfl)) ?_
 refine op_v (p_assign (fun _=>rfl)) ?_
 refine ops_nil ?_
 refine nx_next ?_
 refine at_seq ?_
 refine at_region ?_
 refine op_v (p_move (fun _=>rfl)) ?_
 refine op_e (w_callR (vs := [_]) (fun _=>rfl) Tryz.call13 (fun _=>rfl) rfl (size_law n h1 h2) (by repeat (first | exact Pull.nil _ | (apply Pull.cons; (focus (repeat (first | exact One.here _ _ | apply One.there))))))) (fun _=>rfl) rfl rfl ?_
 rintro _ _ ⟨rfl, rfl⟩
 refine ops_eff (fun _=>rfl) (fits_of rfl) rfl (w_call (vs := [_]) (fun _=>rfl) Tryz.call23 (fun _=>rfl) rfl (new_state (sizeN n) (by omega) (by omega)) (by repeat (first | exact Pull.nil _ | (apply Pull.cons; (focus (repeat (first | exact One.here _ _ | apply One.there))))))) ?_ no_pan
 rintro _ _ ⟨_, ⟨dp, sd0, rfl, rfl, hR0⟩, rfl⟩
 refine op_v (p_move (fun _=>rfl)) ?_
 refine op_v (p_extract (fun _=>rfl) rfl) ?_
 refine op_v (p_extract (fun _=>rfl) rfl) ?_
 refine op_v (p_assign (fun _=>rfl)) ?_
 refine op_v (p_assign (fun _=>rfl)) ?_
 refine ops_nil ?_
 refine nx_next ?_
 refine at_seq ?_
 refine at_region ?_
 refine op_v (p_move (fun _=>rfl)) ?_
 refine op_e (w_callR (vs := [_]) (fun _=>rfl) Tryz.call13 (fun _=>rfl) rfl (size_law n h1 h2) (by repeat (first | exact Pull.nil _ | (apply Pull.cons; (focus (repeat (first | exact One.here _ _ | apply One.there))))))) (fun _=>rfl) rfl rfl ?_
 rintro _ _ ⟨rfl, rfl⟩
 refine ops_eff (fun _=>rfl) (fits_of rfl) rfl (w_call (vs := [_]) (fun _=>rfl) Tryz.call32 (fun _=>rfl) rfl (rd_new (sizeN n) (by omega) (by omega)) (by repeat (first | exact Pull.nil _ | (apply Pull.cons; (focus (repeat (first | exact One.here _ _ | apply One.there))))))) ?_ no_pan
 rintro _ _ ⟨_, ⟨rp, sr0, rfl, hr0, rfl⟩, rfl⟩
 refine op_v (p_move (fun _=>rfl)) ?_
 refine op_v (p_extract (fun _=>rfl) rfl) ?_
 refine op_v (p_extract (fun _=>rfl) rfl) ?_
 refine op_v (p_assign (fun _=>rfl)) ?_
 refine op_v (p_assign (fun _=>rfl)) ?_
 refine ops_nil ?_
 refine nx_slots (env' := [(4, _), (6, _)]) [4, 6] rfl (fun _=>rfl) ?_
 refine nx_next ?_
 refine at_seq ?_
 refine at_region ?_
 refine op_v (p_move (fun _=>rfl)) ?_
 refine op_v (p_move (fun _=>rfl)) ?_
 refine op_v (p_build (vs := [(0, _), (2, _)]) (cs := #[_, _, _, _]) (fun _=>rfl) (run_build_struct (pl := #[(0, 1), (1, 1), (2, 1), (3, 1)]) Tryz.zeroValue32 Tryz.underlying32 (fun _ => by kernel_rfl) rfl)) ?_
 refine op_e (w_box (fun _=>rfl) (cs := #[_, _, _, _]) rfl) (fun _=>rfl) rfl rfl ?_
 rintro _ _ ⟨wp, rfl, rfl⟩
 refine op_v (p_assign (fun _=>rfl)) ?_
 refine ops_nil ?_
 refine nx_next ?_
 refine at_seq ?_
 refine at_region ?_
 refine op_v (p_move (fun _=>rfl)) ?_
 refine ops_eff (fun _=>rfl) (fits_of rfl) rfl (w_call (vs := [_]) (fun _=>rfl) Tryz.call15 (fun _=>rfl) rfl (wopen_some wp dp rp _ _ (DiskS.new (sizeN n)) sd0 sr0 pa Tx Tg zx zg hR0 hr0 (by simp [DiskS.new]) ⟨[], zero32, 0, false⟩ (by rw [hon]) (by rw [hon])) (by repeat (first | exact Pull.nil _ | (apply Pull.cons; (focus (repeat (first | exact One.here _ _ | apply One.there))))))) ?_ no_pan
 rintro _ _ ⟨_, ⟨jp, kp, sj, sk, sd, sr, rfl, hJ, hK, hR, hr, rfl⟩, rfl⟩
 rw [hon] at hR hr
 refine op_v (p_assign (fun _=>rfl)) ?_
 refine ops_nil ?_
 refine nx_next ?_
 refine at_seq ?_
 refine at_region ?_
 refine op_v (p_move (fun _=>rfl)) ?_
 refine op_v (p_move (fun _=>rfl)) ?_
 refine op_v (p_assign (fun _=>rfl)) ?_
 refine op_v (p_assign (fun _=>rfl)) ?_
 refine ops_nil ?_
 refine nx_next ?_
 refine at_ret ?_
 refine nx_end2 (H' := _) rfl Tryz.results7 (fun _=>rfl) (fun _=>rfl) (by exact ⟨wp, dp, rp, jp, kp, sj, sk, sd, sr, rfl, hJ, hK, hR, hr, rfl⟩)

end Go.Proofs.YtdahnapibeepkaaGreatDoor
