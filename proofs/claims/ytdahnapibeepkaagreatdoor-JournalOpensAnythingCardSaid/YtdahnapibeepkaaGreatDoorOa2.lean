/- The world of chapter 23: open, begin. -/
import Derived.Test.YtdahnapibeepkaaGreatDoorOa1
namespace Go.Proofs.YtdahnapibeepkaaGreatDoor
open Go Go.RowKit Gw
set_option linter.unusedVariables false
set_option maxRecDepth 100000
attribute [local irreducible] Gw.At Gw.Nx Gw.Ops
theorem wopen_some (wp dp rp : Nat) (v1 v2 : Value) (d : DiskS) (sd sr : List Chunk) (pa : Addr) (Tx Tg : TypeId) (zx zg : Nat × Nat) (hR : DiskR d dp sd) (hr : RdR d rp sr) (hk : d.pend.length ≤ 999990) (j : JrS) (hj : d.openJ.2.1 = some j) (he : d.openJ.1 = 0) : Does Tryz.prog 15 #[.pointer (some ⟨wp, 0, none⟩)] [[(wp, .cells #[.pointer (some ⟨dp, 0, none⟩), v1, .pointer (some ⟨rp, 0, none⟩), v2] 32 (0, 0))], sd, sr, [(4, .cells (kTab.map u32v).toArray Tg zg)], [(0, .cells #[.iface 274 (.pointer (some pa))] Tx zx)]]
      (fun r H' => ∃ jp kp sj sk sd' sr', r = .bool true ∧ JrR j jp dp sj ∧ KrR j kp rp sk ∧ DiskR d.openJ.2.2 dp sd' ∧ RdR d.openJ.2.2 rp sr' ∧ H' = [[(wp, .cells #[.pointer (some ⟨dp, 0, none⟩), .pointer (some ⟨jp, 0, none⟩), .pointer (some ⟨rp, 0, none⟩), .pointer (some ⟨kp, 0, none⟩)] 32 (0, 0))], sj, sk, sd', sr', [(4, .cells (kTab.map u32v).toArray Tg zg)], [(0, .cells #[.iface 274 (.pointer (some pa))] Tx zx)]]) := by
 refine spec_enter Tryz.func15 rfl Tryz.ntmps15 rfl ?_
 intro u R
 refine at_slots (env' := [(0, _)]) [0] rfl (fun _=>rfl) ?_
 refine at_seq ?_
 refine at_region ?_
 refine op_v (p_assign (fun _=>rfl)) ?_
 refine ops_nil ?_
 refine nx_slots (env' := [(0, _)]) [0] rfl (fun _=>rfl) ?_
 refine nx_next ?_
 refine at_seq ?_
 refine at_region ?_
 refine op_v (p_move (fun _=>rfl)) ?_
 refine op_v (p_nilChk (fun _=>rfl) rfl) ?_
 first | refine op_v (p_fieldAddr0 (off := 0) Tryz.underlying32 rfl rfl Tryz.sizeOf27 (fun _=>rfl)) ?_ | refine op_v (p_fieldAddr1 (off := 0) Tryz.underlying32 rfl rfl Tryz.sizeOf27 (fun _=>rfl)) ?_
 refine op_r (by repeat (first | exact Has.here _ | apply Has.there)) (p_load Tryz.isAgg27 (fun _=>rfl) (by rfl)) rfl rfl ?_
 refine ops_eff (fun _=>rfl) (fits_of rfl) rfl (w_call (vs := [_]) (fun _=>rfl) Tryz.call24 (fun _=>rfl) rfl (popen_any d dp sd pa Tx Tg zx zg hR hk) (by repeat (first | exact Pull.nil _ | (apply Pull.cons; (focus (repeat (first | exact One.here _ _ | apply One.there))))))) ?_ no_pan
 rintro _ _ ⟨_, ⟨v1, sj, sd2, hJ, hR2, rfl, rfl⟩, rfl⟩
 rw [hj] at hJ
 obtain ⟨jp, rfl, hJ⟩ := hJ
 rw [he]
 refine op_v (p_move (fun _=>rfl)) ?_
 refine op_v (p_extract (fun _=>rfl) rfl) ?_
 refine op_v (p_extract (fun _=>rfl) rfl) ?_
 refine op_v (p_assign (fun _=>rfl)) ?_
 refine op_v (p_assign (fun _=>rfl)) ?_
 refine ops_nil ?_
 refine nx_slots (env' := [(0, _), (3, _), (4, _)]) [0, 3, 4] rfl (fun _=>rfl) ?_
 refine nx_next ?_
 refine at_seq ?_
 refine at_region ?_
 refine op_v (p_move (fun _=>rfl)) ?_
 refine op_v (p_nilChk (fun _=>rfl) rfl) ?_
 first | refine op_v (p_fieldAddr0 (off := 2) Tryz.underlying32 rfl rfl Tryz.sizeOf29 (fun _=>rfl)) ?_ | refine op_v (p_fieldAddr1 (off := 2) Tryz.underlying32 rfl rfl Tryz.sizeOf29 (fun _=>rfl)) ?_
 refine op_r (by repeat (first | exact Has.here _ | apply Has.there)) (p_load Tryz.isAgg29 (fun _=>rfl) (by rfl)) rfl rfl ?_
 refine ops_eff (fun _=>rfl) (fits_of rfl) rfl (w_call (vs := [_]) (fun _=>rfl) Tryz.call49 (fun _=>rfl) rfl (kopen_any d rp sr hr hk) (by repeat (first | exact Pull.nil _ | (apply Pull.cons; (focus (repeat (first | exact One.here _ _ | apply One.there))))))) ?_ no_pan
 rintro _ _ ⟨_, ⟨v2, sk, sr2, hK, hr2, rfl, rfl⟩, rfl⟩
 rw [hj] at hK
 obtain ⟨kp, rfl, hK⟩ := hK
 rw [he]
 refine op_v (p_move (fun _=>rfl)) ?_
 refine op_v (p_extract (fun _=>rfl) rfl) ?_
 refine op_v (p_extract (fun _=>rfl) rfl) ?_
 refine op_v (p_assign (fun _=>rfl)) ?_
 refine op_v (p_assign (fun _=>rfl)) ?_
 refine ops_nil ?_
 refine nx_slots (env' := [(0, _), (3, _), (4, _), (5, _), (6, _)]) [0, 3, 4, 5, 6] rfl (fun _=>rfl) ?_
 refine nx_next ?_
 refine at_seq ?_
 refine at_region ?_
 refine op_v (p_move (fun _=>rfl)) ?_
 refine op_v (p_move (fun _=>rfl)) ?_
 refine op_v (p_nilChk (fun _=>rfl) rfl) ?_
 first | refine op_v (p_fieldAddr0 (off := 1) Tryz.underlying32 rfl rfl Tryz.sizeOf28 (fun _=>rfl)) ?_ | refine op_v (p_fieldAddr1 (off := 1) Tryz.underlying32 rfl rfl Tryz.sizeOf28 (fun _=>rfl)) ?_
 refine op_e (w_store Tryz.sizeOf28 (fun _=>rfl) (fun _=>rfl) rfl (by repeat (first | exact Upd.here _ | apply Upd.there)) (by rfl) (by first | decide | exact Nat.le_refl _ | (simp; done) | (simp; omega)) (by exact free_zero _)) (fun _=>rfl) rfl rfl ?_
 rintro _ _ ⟨rfl, rfl⟩
 refine ops_nil ?_
 refine nx_slots (env' := [(0, _), (3, _), (4, _), (5, _), (6, _)]) [0, 3, 4, 5, 6] rfl (fun _=>rfl) ?_
 refine nx_next ?_
 refine at_seq ?_
 refine at_region ?_
 refine op_v (p_move (fun _=>rfl)) ?_
 refine op_v (p_move (fun _=>rfl)) ?_
 refine op_v (p_nilChk (fun _=>rfl) rfl) ?_
 first | refine op_v (p_fieldAddr0 (off := 3) Tryz.underlying32 rfl rfl Tryz.sizeOf30 (fun _=>rfl)) ?_ | refine op_v (p_fieldAddr1 (off := 3) Tryz.underlying32 rfl rfl Tryz.sizeOf30 (fun _=>rfl)) ?_
 refine op_e (w_store Tryz.sizeOf30 (fun _=>rfl) (fun _=>rfl) rfl (by repeat (first | exact Upd.here _ | apply Upd.there)) (by rfl) (by first | decide | exact Nat.le_refl _ | (simp; done) | (simp; omega)) (by exact free_zero _)) (fun _=>rfl) rfl rfl ?_
 rintro _ _ ⟨rfl, rfl⟩
 refine ops_nil ?_
 refine nx_slots (env' := [(3, _), (4, _), (6, _)]) [3, 4, 6] rfl (fun _=>rfl) ?_
 refine nx_next ?_
 refine at_seq ?_
 refine at_region ?_
 refine op_v (p_move (fun _=>rfl)) ?_
 refine op_v (p_move (fun _=>rfl)) ?_
 first | refine op_v (p_eql_nat (fun _=>rfl) (fun _=>rfl)) ?_ | refine op_v (p_eql (fun _=>rfl) (fun _=>rfl)) ?_
 refine op_v (p_move (fun _=>rfl)) ?_
 first | refine ops_split (t := 34) (fun _=>rfl) rfl (fun hg1 => ?_) (fun hg1 => ?_) | refine ops_split_bool (t := 34) (fun _=>rfl) rfl (fun hg1 => ?_) (fun hg1 => ?_)
 ·
  refine op_wg (fun _=>rfl) (p_move (fun _=>rfl)) rfl rfl ?_
  first | refine op_wg (fun _=>rfl) (p_neq_nat (n := 0) (fun _=>rfl) (fun _=>rfl)) rfl rfl ?_ | refine op_wg (fun _=>rfl) (p_neq (fun _=>rfl) (fun _=>rfl)) rfl rfl ?_
  refine op_wg (fun _=>rfl) (p_move (fun _=>rfl)) rfl rfl ?_
  first | refine op_wg (fun _=>rfl) (p_eql_nil_nil Tryz.underlying28 (fun _=>rfl) (fun _=>rfl)) rfl rfl ?_ | refine op_wg (fun _=>rfl) (p_eql_ptr_nil Tryz.underlying28 (fun _=>rfl) (fun _=>rfl)) rfl rfl ?_
  refine op_wg (fun _=>rfl) (p_eql_bool Tryz.underlying4 (fun _=>rfl) (fun _=>rfl)) rfl rfl ?_
  refine op_v (p_pick_t (fun _=>rfl) (fun _=>rfl)) ?_
  refine op_v (p_assign (fun _=>rfl)) ?_
  refine ops_nil ?_
  refine nx_slots (env' := [(2, _)]) [2] rfl (fun _=>rfl) ?_
  refine nx_next ?_
  refine at_ret ?_
  refine nx_end1 (H' := _) rfl Tryz.results15 (fun _=>rfl) (by exact ⟨jp, kp, sj, sk, sd2, sr2, by simp, hJ, hK, hR2, hr2, rfl⟩) ?hp_1
  case hp_1 => repeat (first | exact Sub.refl _ | exact Sub.nil _ | (apply Sub.cons; (focus (repeat (first | exact One.here _ _ | apply One.there)))) | refine Sub.drop _ ?_)
 ·
  exfalso; first | exact hg1 rfl | (cases hg1; done) | contradiction | omega | (simp at hg1; omega) | (simp_all; done) | (simp_all; omega)

theorem wopen_none (wp dp rp : Nat) (v1 v2 : Value) (d : DiskS) (sd sr : List Chunk) (pa : Addr) (Tx Tg : TypeId) (zx zg : Nat × Nat) (hR : DiskR d dp sd) (hr : RdR d rp sr) (hk : d.pend.length ≤ 999990) (hj : d.openJ.2.1 = none) (he : d.openJ.1 ≠ 0) : Does Tryz.prog 15 #[.pointer (some ⟨wp, 0, none⟩)] [[(wp, .cells #[.pointer (some ⟨dp, 0, none⟩), v1, .pointer (some ⟨rp, 0, none⟩), v2] 32 (0, 0))], sd, sr, [(4, .cells (kTab.map u32v).toArray Tg zg)], [(0, .cells #[.iface 274 (.pointer (some pa))] Tx zx)]]
      (fun r H' => ∃ sd' sr', r = .bool true ∧ DiskR d.openJ.2.2 dp sd' ∧ RdR d.openJ.2.2 rp sr' ∧ H' = [[(wp, .cells #[.pointer (some ⟨dp, 0, none⟩), .pointer none, .pointer (some ⟨rp, 0, none⟩), .pointer none] 32 (0, 0))], sd', sr', [(4, .cells (kTab.map u32v).toArray Tg zg)], [(0, .cells #[.iface 274 (.pointer (some pa))] Tx zx)]]) := by
 refine spec_enter Tryz.func15 rfl Tryz.ntmps15 rfl ?_
 intro u R
 refine at_slots (env' := [(0, _)]) [0] rfl (fun _=>rfl) ?_
 refine at_seq ?_
 refine at_region ?_
 refine op_v (p_assign (fun _=>rfl)) ?_
 refine ops_nil ?_
 refine nx_slots (env' := [(0, _)]) [0] rfl (fun _=>rfl) ?_
 refine nx_next ?_
 refine at_seq ?_
 refine at_region ?_
 refine op_v (p_move (fun _=>rfl)) ?_
 refine op_v (p_nilChk (fun _=>rfl) rfl) ?_
 first | refine op_v (p_fieldAddr0 (off := 0) Tryz.underlying32 rfl rfl Tryz.sizeOf27 (fun _=>rfl)) ?_ | refine op_v (p_fieldAddr1 (off := 0) Tryz.underlying32 rfl rfl Tryz.sizeOf27 (fun _=>rfl)) ?_
 refine op_r (by repeat (first | exact Has.here _ | apply Has.there)) (p_load Tryz.isAgg27 (fun _=>rfl) (by rfl)) rfl rfl ?_
 refine ops_eff (fun _=>rfl) (fits_of rfl) rfl (w_call (vs := [_]) (fun _=>rfl) Tryz.call24 (fun _=>rfl) rfl (popen_any d dp sd pa Tx Tg zx zg hR hk) (by repeat (first | exact Pull.nil _ | (apply Pull.cons; (focus (repeat (first | exact One.here _ _ | apply One.there))))))) ?_ no_pan
 rintro _ _ ⟨_, ⟨v1, sj, sd2, hJ, hR2, rfl, rfl⟩, rfl⟩
 rw [hj] at hJ
 obtain ⟨rfl, rfl⟩ := hJ
 refine op_v (p_move (fun _=>rfl)) ?_
 refine op_v (p_extract (fun _=>rfl) rfl) ?_
 refine op_v (p_extract (fun _=>rfl) rfl) ?_
 refine op_v (p_assign (fun _=>rfl)) ?_
 refine op_v (p_assign (fun _=>rfl)) ?_
 refine ops_nil ?_
 refine nx_slots (env' := [(0, _), (3, _), (4, _)]) [0, 3, 4] rfl (fun _=>rfl) ?_
 refine nx_next ?_
 refine at_seq ?_
 refine at_region ?_
 refine op_v (p_move (fun _=>rfl)) ?_
 refine op_v (p_nilChk (fun _=>rfl) rfl) ?_
 first | refine op_v (p_fieldAddr0 (off := 2) Tryz.underlying32 rfl rfl Tryz.sizeOf29 (fun _=>rfl)) ?_ | refine op_v (p_fieldAddr1 (off := 2) Tryz.underlying32 rfl rfl Tryz.sizeOf29 (fun _=>rfl)) ?_
 refine op_r (by repeat (first | exact Has.here _ | apply Has.there)) (p_load Tryz.isAgg29 (fun _=>rfl) (by rfl)) rfl rfl ?_
 refine ops_eff (fun _=>rfl) (fits_of rfl) rfl (w_call (vs := [_]) (fun _=>rfl) Tryz.call49 (fun _=>rfl) rfl (kopen_any d rp sr hr hk) (by repeat (first | exact Pull.nil _ | (apply Pull.cons; (focus (repeat (first | exact One.here _ _ | apply One.there))))))) ?_ no_pan
 rintro _ _ ⟨_, ⟨v2, sk, sr2, hK, hr2, rfl, rfl⟩, rfl⟩
 rw [hj] at hK
 obtain ⟨rfl, rfl⟩ := hK
 refine op_v (p_move (fun _=>rfl)) ?_
 refine op_v (p_extract (fun _=>rfl) rfl) ?_
 refine op_v (p_extract (fun _=>rfl) rfl) ?_
 refine op_v (p_assign (fun _=>rfl)) ?_
 refine op_v (p_assign (fun _=>rfl)) ?_
 refine ops_nil ?_
 refine nx_slots (env' := [(0, _), (3, _), (4, _), (5, _), (6, _)]) [0, 3, 4, 5, 6] rfl (fun _=>rfl) ?_
 refine nx_next ?_
 refine at_seq ?_
 refine at_region ?_
 refine op_v (p_move (fun _=>rfl)) ?_
 refine op_v (p_move (fun _=>rfl)) ?_
 refine op_v (p_nilChk (fun _=>rfl) rfl) ?_
 first | refine op_v (p_fieldAddr0 (off := 1) Tryz.underlying32 rfl rfl Tryz.sizeOf28 (fun _=>rfl)) ?_ | refine op_v (p_fieldAddr1 (off := 1) Tryz.underlying32 rfl rfl Tryz.sizeOf28 (fun _=>rfl)) ?_
 refine op_e (w_store Tryz.sizeOf28 (fun _=>rfl) (fun _=>rfl) rfl (by repeat (first | exact Upd.here _ | apply Upd.there)) (by rfl) (by first | decide | exact Nat.le_refl _ | (simp; done) | (simp; omega)) (by exact free_zero _)) (fun _=>rfl) rfl rfl ?_
 rintro _ _ ⟨rfl, rfl⟩
 refine ops_nil ?_
 refine nx_slots (env' := [(0, _), (3, _), (4, _), (5, _), (6, _)]) [0, 3, 4, 5, 6] rfl (fun _=>rfl) ?_
 refine nx_next ?_
 refine at_seq ?_
 refine at_region ?_
 refine op_v (p_move (fun _=>rfl)) ?_
 refine op_v (p_move (fun _=>rfl)) ?_
 refine op_v (p_nilChk (fun _=>rfl) rfl) ?_
 first | refine op_v (p_fieldAddr0 (off := 3) Tryz.underlying32 rfl rfl Tryz.sizeOf30 (fun _=>rfl)) ?_ | refine op_v (p_fieldAddr1 (off := 3) Tryz.underlying32 rfl rfl Tryz.sizeOf30 (fun _=>rfl)) ?_
 refine op_e (w_store Tryz.sizeOf30 (fun _=>rfl) (fun _=>rfl) rfl (by repeat (first | exact Upd.here _ | apply Upd.there)) (by rfl) (by first | decide | exact Nat.le_refl _ | (simp; done) | (simp; omega)) (by exact free_zero _)) (fun _=>rfl) rfl rfl ?_
 rintro _ _ ⟨rfl, rfl⟩
 refine ops_nil ?_
 refine nx_slots (env' := [(3, _), (4, _), (6, _)]) [3, 4, 6] rfl (fun _=>rfl) ?_
 refine nx_next ?_
 refine at_seq ?_
 refine at_region ?_
 refine op_v (p_move (fun _=>rfl)) ?_
 refine op_v (p_move (fun _=>rfl)) ?_
 first | refine op_v (p_eql_nat (fun _=>rfl) (fun _=>rfl)) ?_ | refine op_v (p_eql (fun _=>rfl) (fun _=>rfl)) ?_
 refine op_v (p_move (fun _=>rfl)) ?_
 first | refine ops_split (t := 34) (fun _=>rfl) rfl (fun hg1 => ?_) (fun hg1 => ?_) | refine ops_split_bool (t := 34) (fun _=>rfl) rfl (fun hg1 => ?_) (fun hg1 => ?_)
 ·
  refine op_wg (fun _=>rfl) (p_move (fun _=>rfl)) rfl rfl ?_
  first | refine op_wg (fun _=>rfl) (p_neq_nat (n := 0) (fun _=>rfl) (fun _=>rfl)) rfl rfl ?_ | refine op_wg (fun _=>rfl) (p_neq (fun _=>rfl) (fun _=>rfl)) rfl rfl ?_
  refine op_wg (fun _=>rfl) (p_move (fun _=>rfl)) rfl rfl ?_
  first | refine op_wg (fun _=>rfl) (p_eql_nil_nil Tryz.underlying28 (fun _=>rfl) (fun _=>rfl)) rfl rfl ?_ | refine op_wg (fun _=>rfl) (p_eql_ptr_nil Tryz.underlying28 (fun _=>rfl) (fun _=>rfl)) rfl rfl ?_
  refine op_wg (fun _=>rfl) (p_eql_bool Tryz.underlying4 (fun _=>rfl) (fun _=>rfl)) rfl rfl ?_
  refine op_v (p_pick_t (fun _=>rfl) (fun _=>rfl)) ?_
  refine op_v (p_assign (fun _=>rfl)) ?_
  refine ops_nil ?_
  refine nx_slots (env' := [(2, _)]) [2] rfl (fun _=>rfl) ?_
  refine nx_next ?_
  refine at_ret ?_
  refine nx_end1 (H' := _) rfl Tryz.results15 (fun _=>rfl) (by exact ⟨sd2, sr2, by simp [he], hR2, hr2, rfl⟩) ?hp_1
  case hp_1 => repeat (first | exact Sub.refl _ | exact Sub.nil _ | (apply Sub.cons; (focus (repeat (first | exact One.here _ _ | apply One.there)))) | refine Sub.drop _ ?_)
 ·
  exfalso; first | exact hg1 rfl | (cases hg1; done) | contradiction | omega | (simp at hg1; omega) | (simp_all; done) | (simp_all; omega)

theorem wbegin (n : Int) (h1 : -9223372036854775808 ≤ n) (h2 : n ≤ 9223372036854775807) (pa : Addr) (Tx Tg : TypeId) (zx zg : Nat × Nat) : Does Tryz.prog 7 #[.int .i64 n] [[(4, .cells (kTab.map u32v).toArray Tg zg)], [(0, .cells #[.iface 274 (.pointer (some pa))] Tx zx)]]
      (fun r H' => ∃ wp dp rp jp kp sj sk sd sr, r = .tuple #[.pointer (some ⟨wp, 0, none⟩), .bool true] ∧ JrR ⟨[], zero32, 0, false⟩ jp dp sj ∧ KrR ⟨[], zero32, 0, false⟩ kp rp sk ∧ DiskR (DiskS.new (sizeN n)) dp sd ∧ RdR (DiskS.new (sizeN n)) rp sr ∧ H' = [[(wp, .cells #[.pointer (some ⟨dp, 0, none⟩), .pointer (some ⟨jp, 0, none⟩), .pointer (some ⟨rp, 0, none⟩), .pointer (some ⟨kp, 0, none⟩)] 32 (0, 0))], sj, sk, sd, sr, [(4, .cells (kTab.map u32v).toArray Tg zg)], [(0, .cells #[.iface 274 (.pointer (some pa))] Tx zx)]]) := by
 have hsz0 : sizeN n = 1 + pickN n 1500 := rfl
 have hsz1 := pickN_lt n 1500 (by decide)
 have hon := openJ_new (sizeN n) (by omega)
 refine spec_enter Tryz.func7 rfl Tryz.ntmps7 rfl ?_
 intro u R
 refine at_slots (env' := [(0, _)]) [0] rfl (fun _=>rfl) ?_
 refine at_seq ?_
 refine at_region ?_
 refine op_v (p_assign (fun _=>rfl)) ?_
 refine op_v (p_assign (fun _=>rfl)) ?_
 refine ops_nil ?_
 refine nx_slots (env' := [(0, _)]) [0] rfl (fun _=>rfl) ?_
 refine nx_next ?_
 refine at_seq ?_
 refine at_region ?_
 refine op_v (p_move (fun _=>rfl)) ?_
 refine op_e (w_callR (vs := [_]) (fun _=>rfl) Tryz.call13 (fun _=>rfl) rfl (size_law n h1 h2) (by repeat (first | exact Pull.nil _ | (apply Pull.cons; (focus (repeat (first | exact One.here _ _ | apply One.there))))))) (fun _=>rfl) rfl rfl ?_
 rintro _ _ ⟨rfl, rfl⟩
 refine ops_eff (fun _=>rfl) (fits_of rfl) rfl (w_call (vs := [_]) (fun _=>rfl) Tryz.call23 (fun _=>rfl) rfl (new_state (sizeN n) (by omega) (by omega)) (by repeat (first | exact Pull.nil _ | (apply Pull.cons; (focus (repeat (first | exact One.here _ _ | apply One.there))))))) ?_ no_pan
 rintro _ _ ⟨_, ⟨dp, sd0, rfl, rfl, hR0⟩, rfl⟩
 refine op_v (p_move (fun _=>rfl)) ?_
 refine op_v (p_extract (fun _=>rfl) rfl) ?_
 refine op_v (p_extract (fun _=>rfl) rfl) ?_
 refine op_v (p_assign (fun _=>rfl)) ?_
 refine op_v (p_assign (fun _=>rfl)) ?_
 refine ops_nil ?_
 refine nx_slots (env' := [(0, _), (4, _)]) [0, 4] rfl (fun _=>rfl) ?_
 refine nx_next ?_
 refine at_seq ?_
 refine at_region ?_
 refine op_v (p_move (fun _=>rfl)) ?_
 refine op_e (w_callR (vs := [_]) (fun _=>rfl) Tryz.call13 (fun _=>rfl) rfl (size_law n h1 h2) (by repeat (first | exact Pull.nil _ | (apply Pull.cons; (focus (repeat (first | exact One.here _ _ | apply One.there))))))) (fun _=>rfl) rfl rfl ?_
 rintro _ _ ⟨rfl, rfl⟩
 refine ops_eff (fun _=>rfl) (fits_of rfl) rfl (w_call (vs := [_]) (fun _=>rfl) Tryz.call32 (fun _=>rfl) rfl (rd_new (sizeN n) (by omega) (by omega)) (by repeat (first | exact Pull.nil _ | (apply Pull.cons; (focus (repeat (first | exact One.here _ _ | apply One.there))))))) ?_ no_pan
 rintro _ _ ⟨_, ⟨rp, sr0, rfl, hr0, rfl⟩, rfl⟩
 refine op_v (p_move (fun _=>rfl)) ?_
 refine op_v (p_extract (fun _=>rfl) rfl) ?_
 refine op_v (p_extract (fun _=>rfl) rfl) ?_
 refine op_v (p_assign (fun _=>rfl)) ?_
 refine op_v (p_assign (fun _=>rfl)) ?_
 refine ops_nil ?_
 refine nx_slots (env' := [(4, _), (6, _)]) [4, 6] rfl (fun _=>rfl) ?_
 refine nx_next ?_
 refine at_seq ?_
 refine at_region ?_
 refine op_v (p_move (fun _=>rfl)) ?_
 refine op_v (p_move (fun _=>rfl)) ?_
 refine op_v (p_build (vs := [(0, _), (2, _)]) (cs := #[_, _, _, _]) (fun _=>rfl) (run_build_struct (pl := #[(0, 1), (1, 1), (2, 1), (3, 1)]) Tryz.zeroValue32 Tryz.underlying32 (fun _ => by kernel_rfl) rfl)) ?_
 refine op_e (w_box (fun _=>rfl) (cs := #[_, _, _, _]) rfl) (fun _=>rfl) rfl rfl ?_
 rintro _ _ ⟨wp, rfl, rfl⟩
 refine op_v (p_assign (fun _=>rfl)) ?_
 refine ops_nil ?_
 refine nx_slots (env' := [(8, _)]) [8] rfl (fun _=>rfl) ?_
 refine nx_next ?_
 refine at_seq ?_
 refine at_region ?_
 refine op_v (p_move (fun _=>rfl)) ?_
 refine ops_eff (fun _=>rfl) (fits_of rfl) rfl (w_call (vs := [_]) (fun _=>rfl) Tryz.call15 (fun _=>rfl) rfl (wopen_some wp dp rp _ _ (DiskS.new (sizeN n)) sd0 sr0 pa Tx Tg zx zg hR0 hr0 (by simp [DiskS.new]) ⟨[], zero32, 0, false⟩ (by rw [hon]) (by rw [hon])) (by repeat (first | exact Pull.nil _ | (apply Pull.cons; (focus (repeat (first | exact One.here _ _ | apply One.there))))))) ?_ no_pan
 rintro _ _ ⟨_, ⟨jp, kp, sj, sk, sd, sr, rfl, hJ, hK, hR, hr, rfl⟩, rfl⟩
 rw [hon] at hR hr
 refine op_v (p_assign (fun _=>rfl)) ?_
 refine ops_nil ?_
 refine nx_slots (env' := [(8, _), (9, _)]) [8, 9] rfl (fun _=>rfl) ?_
 refine nx_next ?_
 refine at_seq ?_
 refine at_region ?_
 refine op_v (p_move (fun _=>rfl)) ?_
 refine op_v (p_move (fun _=>rfl)) ?_
 refine op_v (p_assign (fun _=>rfl)) ?_
 refine op_v (p_assign (fun _=>rfl)) ?_
 refine ops_nil ?_
 refine nx_slots (env' := [(2, _), (3, _)]) [2, 3] rfl (fun _=>rfl) ?_
 refine nx_next ?_
 refine at_ret ?_
 refine nx_end2 (H' := _) rfl Tryz.results7 (fun _=>rfl) (fun _=>rfl) (by exact ⟨wp, dp, rp, jp, kp, sj, sk, sd, sr, rfl, hJ, hK, hR, hr, rfl⟩) ?hp_1
 case hp_1 => repeat (first | exact Sub.refl _ | exact Sub.nil _ | (apply Sub.cons; (focus (repeat (first | exact One.here _ _ | apply One.there)))) | refine Sub.drop _ ?_)

end Go.Proofs.YtdahnapibeepkaaGreatDoor
