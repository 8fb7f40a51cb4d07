/- Package snapshot: Open. -/
import Derived.Test.YthbadolcncojbaaGreatDoorSp2
namespace Go.Proofs.YthbadolcncojbaaGreatDoor
open Go Go.RowKit Gw
set_option linter.unusedVariables false
set_option maxRecDepth 100000
attribute [local irreducible] Gw.At Gw.Nx Gw.Ops
theorem fill_store (a b c d : Value) (k : IntKind) (n : Int) (p : Option Addr) (l m : Nat) : Instr.fill (fun x => (#[(0, 2), (2, 2), (4, 1), (5, 1), (6, 1)] : Array (Nat × Nat))[x]?) #[.pointer none, .pointer none, .pointer none, .pointer none, .int .i64 0, .slice none 0 0, .int .i64 0] [(0, .agg #[a, b]), (1, .agg #[c, d]), (2, .int k n), (3, .slice p l m)] = some #[a, b, c, d, .int k n, .slice p l m, .int .i64 0] := by
  simp [Instr.fill, Value.cells]
theorem hdr1_len : (outL zero32 [hdr 1]).length = 36 := by
  have h : (hdr 1).length = 2 := by unfold hdr; rw [List.length_cons]; have := encI_one 1 (by decide); omega
  have a := recS_one zero32 (hdr 1) (by omega)
  simp only [outL, List.length_append, a, h, List.length_nil]

theorem open_one (a b m n : Nat) (ja jb : JrS) (da db : DiskS) (sda sdb : List Chunk) (ia ib : List (List UInt8)) (pa : Addr) (Tx Tg : TypeId) (zx zg : Nat × Nat) (hab : a ≠ b) (hDa : JD ja da) (hDb : JD jb db) (hRa : DiskR da a sda) (hRb : DiskR db b sdb) (hLa : LstOk ja.rs m ia) (hLb : LstOk jb.rs n ib) (hmn : n < m) :
    Does Tryz.prog 23 #[.pointer (some ⟨a, 0, none⟩), .pointer (some ⟨b, 0, none⟩)] [sda, sdb, [(4, .cells (kTab.map u32v).toArray Tg zg)], [(0, .cells #[.iface 299 (.pointer (some pa))] Tx zx)]] (fun r H' => ∃ sp ap bp v sv sja sjb, r = .tuple #[.pointer (some ⟨sp, 0, none⟩), .int .i64 0] ∧ JrR ja ap a sja ∧ JrR jb bp b sjb ∧ Row 9 v (ia.map strV) sv ∧ H' = [[(sp, .cells #[.pointer (some ⟨ap, 0, none⟩), .pointer (some ⟨a, 0, none⟩), .pointer (some ⟨bp, 0, none⟩), .pointer (some ⟨b, 0, none⟩), .int .i64 (m : Int), v, .int .i64 0] 150 (0, 0))], sv, sja, sjb, sda, sdb, [(4, .cells (kTab.map u32v).toArray Tg zg)], [(0, .cells #[.iface 299 (.pointer (some pa))] Tx zx)]]) := by
 obtain ⟨csa, hca⟩ := hRa.cell
 obtain ⟨csb, hcb⟩ := hRb.cell
 refine spec_enter Tryz.func23 rfl Tryz.ntmps23 rfl ?_
 intro u R
 refine at_slots (env' := [(0, _), (1, _)]) [0, 1] rfl (fun _=>rfl) ?_
 refine at_seq ?_
 refine at_region ?_
 refine op_v (p_assign (fun _=>rfl)) ?_
 refine op_v (p_assign (fun _=>rfl)) ?_
 refine ops_nil ?_
 refine nx_next ?_
 refine at_seq ?_
 refine at_block ?_
 refine at_seq ?_
 refine at_region ?_
 refine op_v (p_move (fun _=>rfl)) ?_
 first | refine op_v (p_eql_nil_nil Tryz.underlying26 (fun _=>rfl) (fun _=>rfl)) ?_ | refine op_v (p_eql_ptr_nil Tryz.underlying26 (fun _=>rfl) (fun _=>rfl)) ?_
 refine op_v (p_move (fun _=>rfl)) ?_
 refine ops_split_bool (t := 21) (fun _=>rfl) rfl (fun hq1 => ?_) (fun hq1 => ?_)
 ·
  cases hq1
 ·
  refine op_wg (fun _=>rfl) (p_move (fun _=>rfl)) rfl rfl ?_
  first | refine op_wg (fun _=>rfl) (p_eql_nil_nil Tryz.underlying26 (fun _=>rfl) (fun _=>rfl)) rfl rfl ?_ | refine op_wg (fun _=>rfl) (p_eql_ptr_nil Tryz.underlying26 (fun _=>rfl) (fun _=>rfl)) rfl rfl ?_
  refine op_v (p_pick_f (fun _=>rfl) (fun _=>rfl)) ?_
  refine op_v (p_assign (fun _=>rfl)) ?_
  refine ops_nil ?_
  refine nx_next ?_
  refine at_if_bool (fun _=>rfl) (fun hq2 => ?_) (fun hq2 => ?_)
  ·
   cases hq2
  ·
   refine at_seq ?_
   refine at_region ?_
   refine op_v (p_move (fun _=>rfl)) ?_
   refine op_v (p_move (fun _=>rfl)) ?_
   refine op_rm (cs := [(a, .cells csa 103 (0, 0)), (b, .cells csb 103 (0, 0))]) (by simp [hca, hcb]) (p_eql_ptr_ne Tryz.underlying26 (rfl : Tryz.prog.info? 103 = some Tryz.t103) (by decide) hab (fun _=>rfl) (fun _=>rfl)) rfl rfl ?_
   refine op_v (p_assign (fun _=>rfl)) ?_
   refine ops_nil ?_
   refine nx_slots (env' := [(0, _), (1, _), (25, _)]) [0, 1, 25] rfl (fun _=>rfl) ?_
   refine nx_next ?_
   refine at_if_bool (fun _=>rfl) (fun hq3 => ?_) (fun hq3 => ?_)
   ·
    cases hq3
   ·
    refine at_skip ?_
    refine nx_block_normal ?_
    refine nx_next ?_
    refine at_seq ?_
    refine at_region ?_
    refine op_v (p_move (fun _=>rfl)) ?_
    refine ops_eff (fun _=>rfl) (fits_of rfl) rfl (w_call (vs := [_]) (fun _=>rfl) Tryz.call68 (fun _=>rfl) rfl (opened_jd ja da a sda pa Tx Tg zx zg hDa hRa) (by repeat (first | exact Pull.nil _ | (apply Pull.cons; (focus (repeat (first | exact One.here _ _ | apply One.there))))))) ?_ no_pan
    rintro _ _ ⟨_, ⟨ap, sja, rfl, hJa, rfl⟩, rfl⟩
    refine op_v (p_move (fun _=>rfl)) ?_
    refine op_v (p_extract (fun _=>rfl) rfl) ?_
    refine op_v (p_extract (fun _=>rfl) rfl) ?_
    refine op_e (w_alloc Tryz.zeroValue144 (cs := #[_, _]) rfl) (fun _=>rfl) rfl rfl ?_
    rintro _ _ ⟨oa1, rfl, rfl⟩
    refine op_e (w_store_agg Tryz.sizeOf144 (fun _=>rfl) (fun _=>rfl) (by first | (simp [Value.oneCell']; done) | (simp [Value.oneCell', Value.cells]; done)) (by repeat (first | exact Upd.here _ | apply Upd.there)) (by rfl) (by first | rfl | (simp; done)) (by first | decide | exact Nat.le_refl _ | (simp; done) | (simp; omega)) (by exact free_zero _)) (fun _=>rfl) rfl rfl ?_
    rintro _ _ ⟨rfl, rfl⟩
    refine op_v (p_assign (fun _=>rfl)) ?_
    refine ops_nil ?_
    refine nx_next ?_
    refine at_seq ?_
    refine at_seq ?_
    refine at_region ?_
    refine op_v (p_move (fun _=>rfl)) ?_
    first | refine op_v (p_neq_nat (n := 0) (fun _=>rfl) (fun _=>rfl)) ?_ | refine op_v (p_neq (fun _=>rfl) (fun _=>rfl)) ?_
    refine ops_nil ?_
    refine nx_next ?_
    first | refine at_if (fun _=>rfl) (fun hq4 => ?_) (fun hq4 => ?_) | refine at_if_bool (fun _=>rfl) (fun hq4 => ?_) (fun hq4 => ?_)
    ·
     exact absurd rfl hq4
    ·
     refine at_skip ?_
     refine nx_next ?_
     refine at_seq ?_
     refine at_region ?_
     refine op_v (p_move (fun _=>rfl)) ?_
     refine ops_eff (fun _=>rfl) (fits_of rfl) rfl (w_call (vs := [_]) (fun _=>rfl) Tryz.call68 (fun _=>rfl) rfl (opened_jd jb db b sdb pa Tx Tg zx zg hDb hRb) (by repeat (first | exact Pull.nil _ | (apply Pull.cons; (focus (repeat (first | exact One.here _ _ | apply One.there))))))) ?_ no_pan
     rintro _ _ ⟨_, ⟨bp, sjb, rfl, hJb, rfl⟩, rfl⟩
     refine op_v (p_move (fun _=>rfl)) ?_
     refine op_v (p_extract (fun _=>rfl) rfl) ?_
     refine op_v (p_extract (fun _=>rfl) rfl) ?_
     refine op_e (w_alloc Tryz.zeroValue144 (cs := #[_, _]) rfl) (fun _=>rfl) rfl rfl ?_
     rintro _ _ ⟨ob1, rfl, rfl⟩
     refine op_e (w_store_agg Tryz.sizeOf144 (fun _=>rfl) (fun _=>rfl) (by first | (simp [Value.oneCell']; done) | (simp [Value.oneCell', Value.cells]; done)) (by repeat (first | exact Upd.here _ | apply Upd.there)) (by rfl) (by first | rfl | (simp; done)) (by first | decide | exact Nat.le_refl _ | (simp; done) | (simp; omega)) (by exact free_zero _)) (fun _=>rfl) rfl rfl ?_
     rintro _ _ ⟨rfl, rfl⟩
     refine op_v (p_assign (fun _=>rfl)) ?_
     refine ops_nil ?_
     refine nx_slots (env' := [(6, _), (7, _), (8, _)]) [6, 7, 8] rfl (fun _=>rfl) ?_
     refine nx_next ?_
     refine at_seq ?_
     refine at_seq ?_
     refine at_region ?_
     refine op_v (p_move (fun _=>rfl)) ?_
     first | refine op_v (p_neq_nat (n := 0) (fun _=>rfl) (fun _=>rfl)) ?_ | refine op_v (p_neq (fun _=>rfl) (fun _=>rfl)) ?_
     refine ops_nil ?_
     refine nx_next ?_
     first | refine at_if (fun _=>rfl) (fun hq5 => ?_) (fun hq5 => ?_) | refine at_if_bool (fun _=>rfl) (fun hq5 => ?_) (fun hq5 => ?_)
     ·
      exact absurd rfl hq5
     ·
      refine at_skip ?_
      refine nx_next ?_
      refine at_seq ?_
      refine at_draw (n := 6) (0 :: 1 :: 0 :: 4 :: 3 :: 31 :: []) 0 (by kernel_rfl) (by kernel_rfl) rfl ?_
      refine lin_r (D' := 1) 0 rfl rfl rfl (by repeat (first | exact Has.here _ | apply Has.there)) (p_load_agg (cs := #[_, _]) Tryz.isAgg144 Tryz.sizeOf144 (fun _=>rfl) (by first | decide | exact Nat.le_refl _ | (simp; done) | (simp; omega)) (by rfl)) ?_
      refine lin_v (D' := 3) 1 (p_makeFunc (vs := [_]) (us := []) (fun _=>rfl) (fun _=>rfl)) ?_
      refine lin_r (D' := 7) 2 rfl rfl rfl (by repeat (first | exact Has.here _ | apply Has.there)) (p_load_agg (cs := #[_, _]) Tryz.isAgg144 Tryz.sizeOf144 (fun _=>rfl) (by first | decide | exact Nat.le_refl _ | (simp; done) | (simp; omega)) (by rfl)) ?_
      refine lin_v (D' := 15) 3 (p_makeFunc (vs := [_]) (us := []) (fun _=>rfl) (fun _=>rfl)) ?_
      refine lin_v (D' := 31) 4 (p_assign (fun _=>rfl)) ?_
      refine lin_v (D' := 63) 5 (p_assign (fun _=>rfl)) ?_
      refine lin_nil ?_
      refine nx_next ?_
      refine at_seq ?_
      refine at_region ?_
      refine op_v (p_move (fun _=>rfl)) ?_
      refine ops_eff (fun _=>rfl) (fits_of rfl) rfl (w_call (vs := []) (fun _=>rfl) Tryz.call69 (fun _=>rfl) rfl (list_any ja ap a m ia sja hJa hLa) (by repeat (first | exact Pull.nil _ | (apply Pull.cons; (focus (repeat (first | exact One.here _ _ | apply One.there))))))) ?_ no_pan
      rintro _ _ ⟨_, ⟨va, sva, rfl, hva, rfl⟩, rfl⟩
      obtain ⟨gva, cva, rfl⟩ := hva.form
      refine op_v (p_move (fun _=>rfl)) ?_
      refine op_v (p_extract (fun _=>rfl) rfl) ?_
      refine op_v (p_extract (fun _=>rfl) rfl) ?_
      refine op_v (p_extract (fun _=>rfl) rfl) ?_
      refine op_v (p_assign (fun _=>rfl)) ?_
      refine op_v (p_assign (fun _=>rfl)) ?_
      refine op_v (p_assign (fun _=>rfl)) ?_
      refine ops_nil ?_
      refine nx_slots (env' := [(6, _), (8, _), (10, _), (11, _), (12, _), (13, _)]) [6, 8, 10, 11, 12, 13] rfl (fun _=>rfl) ?_
      refine nx_next ?_
      refine at_seq ?_
      refine at_region ?_
      refine op_v (p_move (fun _=>rfl)) ?_
      refine ops_eff (fun _=>rfl) (fits_of rfl) rfl (w_call (vs := []) (fun _=>rfl) Tryz.call69 (fun _=>rfl) rfl (list_any jb bp b n ib sjb hJb hLb) (by repeat (first | exact Pull.nil _ | (apply Pull.cons; (focus (repeat (first | exact One.here _ _ | apply One.there))))))) ?_ no_pan
      rintro _ _ ⟨_, ⟨vb, svb, rfl, hvb, rfl⟩, rfl⟩
      obtain ⟨gvb, cvb, rfl⟩ := hvb.form
      refine op_v (p_move (fun _=>rfl)) ?_
      refine op_v (p_extract (fun _=>rfl) rfl) ?_
      refine op_v (p_extract (fun _=>rfl) rfl) ?_
      refine op_v (p_extract (fun _=>rfl) rfl) ?_
      refine op_v (p_assign (fun _=>rfl)) ?_
      refine op_v (p_assign (fun _=>rfl)) ?_
      refine op_v (p_assign (fun _=>rfl)) ?_
      refine ops_nil ?_
      refine nx_next ?_
      refine at_seq ?_
      refine at_block ?_
      refine at_seq ?_
      refine at_region ?_
      refine op_v (p_move (fun _=>rfl)) ?_
      first | refine op_v (p_not_dec (fun _=>rfl)) ?_ | refine op_v (p_not (fun _=>rfl)) ?_
      refine op_v (p_move (fun _=>rfl)) ?_
      first | refine ops_split (t := 64) (fun _=>rfl) rfl (fun hg1 => ?_) (fun hg1 => ?_) | refine ops_split_bool (t := 64) (fun _=>rfl) rfl (fun hg1 => ?_) (fun hg1 => ?_)
      ·
       exfalso; first | (cases hg1; done) | omega | (simp at hg1; done) | (simp_all; done)
      ·
       refine op_wg (fun _=>rfl) (p_move (fun _=>rfl)) rfl rfl ?_
       first | refine op_wg (fun _=>rfl) (p_not_dec (fun _=>rfl)) rfl rfl ?_ | refine op_wg (fun _=>rfl) (p_not (fun _=>rfl)) rfl rfl ?_
       refine op_v (p_pick_f (fun _=>rfl) (fun _=>rfl)) ?_
       refine op_v (p_move (fun _=>rfl)) ?_
       first | refine ops_split (t := 68) (fun _=>rfl) rfl (fun hg2 => ?_) (fun hg2 => ?_) | refine ops_split_bool (t := 68) (fun _=>rfl) rfl (fun hg2 => ?_) (fun hg2 => ?_)
       ·
        exfalso; first | (cases hg2; done) | omega | (simp at hg2; done) | (simp_all; done)
       ·
        refine op_wg (fun _=>rfl) (p_move (fun _=>rfl)) rfl rfl ?_
        refine op_wg (fun _=>rfl) (p_move (fun _=>rfl)) rfl rfl ?_
        first | refine op_wg (fun _=>rfl) (p_eql_nat (fun _=>rfl) (fun _=>rfl)) rfl rfl ?_ | refine op_wg (fun _=>rfl) (p_eql (fun _=>rfl) (fun _=>rfl)) rfl rfl ?_
        refine op_wg (fun _=>rfl) (p_move (fun _=>rfl)) rfl rfl ?_
        first | refine ops_split (t := 72) (fun _=>rfl) rfl (fun hg3 => ?_) (fun hg3 => ?_) | refine ops_split_bool (t := 72) (fun _=>rfl) rfl (fun hg3 => ?_) (fun hg3 => ?_)
        ·
         exfalso; first | (cases hg3; done) | omega | (simp at hg3; done) | (simp_all; done)
        ·
         refine op_skip (fun _=>rfl) rfl ?_
         refine op_skip (fun _=>rfl) rfl ?_
         refine op_wg (fun _=>rfl) (p_pick_f (fun _=>rfl) (fun _=>rfl)) rfl rfl ?_
         refine op_v (p_pick_f (fun _=>rfl) (fun _=>rfl)) ?_
         refine op_v (p_assign (fun _=>rfl)) ?_
         refine ops_nil ?_
         refine nx_slots (env' := [(6, _), (8, _), (11, _), (12, _), (14, _), (15, _), (61, _)]) [6, 8, 11, 12, 14, 15, 61] rfl (fun _=>rfl) ?_
         refine nx_next ?_
         refine at_else (fun _=>rfl) ?_
         refine at_seq ?_
         refine at_region ?_
         refine op_v (p_move (fun _=>rfl)) ?_
         refine op_v (p_move (fun _=>rfl)) ?_
         first | refine op_v (p_gtr_nat (fun _=>rfl) (fun _=>rfl)) ?_ | refine op_v (p_gtr (fun _=>rfl) (fun _=>rfl)) ?_
         refine op_v (p_assign (fun _=>rfl)) ?_
         refine ops_nil ?_
         refine nx_next ?_
         first | refine at_if (fun _=>rfl) (fun hg4 => ?_) (fun hg4 => ?_) | refine at_if_bool (fun _=>rfl) (fun hg4 => ?_) (fun hg4 => ?_)
         ·
          exfalso; first | (cases hg4; done) | omega | (simp at hg4; done) | (simp_all; done)
         ·
          refine at_seq ?_
          refine at_region ?_
          refine op_v (p_move (fun _=>rfl)) ?_
          first | refine op_v (p_eql_nat (n := 0) (fun _=>rfl) (fun _=>rfl)) ?_ | refine op_v (p_eql (fun _=>rfl) (fun _=>rfl)) ?_
          refine op_v (p_assign (fun _=>rfl)) ?_
          refine ops_nil ?_
          refine nx_next ?_
          first | refine at_if (fun _=>rfl) (fun hg5 => ?_) (fun hg5 => ?_) | refine at_if_bool (fun _=>rfl) (fun hg5 => ?_) (fun hg5 => ?_)
          ·
           exfalso; first | (cases hg5; done) | omega | (simp at hg5; done) | (simp_all; done)
          ·
           refine at_skip ?_
           refine nx_block_normal ?_
           refine nx_next ?_
           refine at_seq ?_
           refine at_region ?_
           refine op_r (by repeat (first | exact Has.here _ | apply Has.there)) (p_load_agg (cs := #[_, _]) Tryz.isAgg144 Tryz.sizeOf144 (fun _=>rfl) (by first | decide | exact Nat.le_refl _ | (simp; done) | (simp; omega)) (by rfl)) rfl rfl ?_
           refine op_r (by repeat (first | exact Has.here _ | apply Has.there)) (p_load_agg (cs := #[_, _]) Tryz.isAgg144 Tryz.sizeOf144 (fun _=>rfl) (by first | decide | exact Nat.le_refl _ | (simp; done) | (simp; omega)) (by rfl)) rfl rfl ?_
           refine op_v (p_move (fun _=>rfl)) ?_
           refine op_v (p_move (fun _=>rfl)) ?_
           refine op_w (p_build (vs := [(0, _), (1, _), (2, _), (3, _)]) (fun _=>rfl) (run_build_struct (pl := #[(0, 2), (2, 2), (4, 1), (5, 1), (6, 1)]) Tryz.zeroValue150 Tryz.underlying150 (fun _ => by kernel_rfl) (fill_store _ _ _ _ _ _ _ _ _))) rfl rfl ?_
           refine op_e (w_box (fun _=>rfl) (cs := #[_, _, _, _, _, _, _]) rfl) (fun _=>rfl) rfl rfl ?_
           rintro _ _ ⟨sp, rfl, rfl⟩
           refine op_v (p_assign (fun _=>rfl)) ?_
           refine op_v (p_assign (fun _=>rfl)) ?_
           refine ops_nil ?_
           refine nx_slots (env' := [(4, _), (5, _)]) [4, 5] rfl (fun _=>rfl) ?_
           refine nx_next ?_
           refine at_ret ?_
           refine nx_end2 (H' := _) rfl Tryz.results23 (fun _=>rfl) (fun _=>rfl) (by exact ⟨_, ap, bp, _, sva, sja, sjb, rfl, hJa, hJb, hva, rfl⟩)

theorem open_two (a b m n : Nat) (ja jb : JrS) (da db : DiskS) (sda sdb : List Chunk) (ia ib : List (List UInt8)) (pa : Addr) (Tx Tg : TypeId) (zx zg : Nat × Nat) (hab : a ≠ b) (hDa : JD ja da) (hDb : JD jb db) (hRa : DiskR da a sda) (hRb : DiskR db b sdb) (hLa : LstOk ja.rs m ia) (hLb : LstOk jb.rs n ib) (hmn : m < n) :
    Does Tryz.prog 23 #[.pointer (some ⟨a, 0, none⟩), .pointer (some ⟨b, 0, none⟩)] [sda, sdb, [(4, .cells (kTab.map u32v).toArray Tg zg)], [(0, .cells #[.iface 299 (.pointer (some pa))] Tx zx)]] (fun r H' => ∃ sp ap bp v sv sja sjb, r = .tuple #[.pointer (some ⟨sp, 0, none⟩), .int .i64 0] ∧ JrR ja ap a sja ∧ JrR jb bp b sjb ∧ Row 9 v (ib.map strV) sv ∧ H' = [[(sp, .cells #[.pointer (some ⟨bp, 0, none⟩), .pointer (some ⟨b, 0, none⟩), .pointer (some ⟨ap, 0, none⟩), .pointer (some ⟨a, 0, none⟩), .int .i64 (n : Int), v, .int .i64 0] 150 (0, 0))], sv, sja, sjb, sda, sdb, [(4, .cells (kTab.map u32v).toArray Tg zg)], [(0, .cells #[.iface 299 (.pointer (some pa))] Tx zx)]]) := by
 obtain ⟨csa, hca⟩ := hRa.cell
 obtain ⟨csb, hcb⟩ := hRb.cell
 refine spec_enter Tryz.func23 rfl Tryz.ntmps23 rfl ?_
 intro u R
 refine at_slots (env' := [(0, _), (1, _)]) [0, 1] rfl (fun _=>rfl) ?_
 refine at_seq ?_
 refine at_region ?_
 refine op_v (p_assign (fun _=>rfl)) ?_
 refine op_v (p_assign (fun _=>rfl)) ?_
 refine ops_nil ?_
 refine nx_next ?_
 refine at_seq ?_
 refine at_block ?_
 refine at_seq ?_
 refine at_region ?_
 refine op_v (p_move (fun _=>rfl)) ?_
 first | refine op_v (p_eql_nil_nil Tryz.underlying26 (fun _=>rfl) (fun _=>rfl)) ?_ | refine op_v (p_eql_ptr_nil Tryz.underlying26 (fun _=>rfl) (fun _=>rfl)) ?_
 refine op_v (p_move (fun _=>rfl)) ?_
 refine ops_split_bool (t := 21) (fun _=>rfl) rfl (fun hq1 => ?_) (fun hq1 => ?_)
 ·
  cases hq1
 ·
  refine op_wg (fun _=>rfl) (p_move (fun _=>rfl)) rfl rfl ?_
  first | refine op_wg (fun _=>rfl) (p_eql_nil_nil Tryz.underlying26 (fun _=>rfl) (fun _=>rfl)) rfl rfl ?_ | refine op_wg (fun _=>rfl) (p_eql_ptr_nil Tryz.underlying26 (fun _=>rfl) (fun _=>rfl)) rfl rfl ?_
  refine op_v (p_pick_f (fun _=>rfl) (fun _=>rfl)) ?_
  refine op_v (p_assign (fun _=>rfl)) ?_
  refine ops_nil ?_
  refine nx_next ?_
  refine at_if_bool (fun _=>rfl) (fun hq2 => ?_) (fun hq2 => ?_)
  ·
   cases hq2
  ·
   refine at_seq ?_
   refine at_region ?_
   refine op_v (p_move (fun _=>rfl)) ?_
   refine op_v (p_move (fun _=>rfl)) ?_
   refine op_rm (cs := [(a, .cells csa 103 (0, 0)), (b, .cells csb 103 (0, 0))]) (by simp [hca, hcb]) (p_eql_ptr_ne Tryz.underlying26 (rfl : Tryz.prog.info? 103 = some Tryz.t103) (by decide) hab (fun _=>rfl) (fun _=>rfl)) rfl rfl ?_
   refine op_v (p_assign (fun _=>rfl)) ?_
   refine ops_nil ?_
   refine nx_slots (env' := [(0, _), (1, _), (25, _)]) [0, 1, 25] rfl (fun _=>rfl) ?_
   refine nx_next ?_
   refine at_if_bool (fun _=>rfl) (fun hq3 => ?_) (fun hq3 => ?_)
   ·
    cases hq3
   ·
    refine at_skip ?_
    refine nx_block_normal ?_
    refine nx_next ?_
    refine at_seq ?_
    refine at_region ?_
    refine op_v (p_move (fun _=>rfl)) ?_
    refine ops_eff (fun _=>rfl) (fits_of rfl) rfl (w_call (vs := [_]) (fun _=>rfl) Tryz.call68 (fun _=>rfl) rfl (opened_jd ja da a sda pa Tx Tg zx zg hDa hRa) (by repeat (first | exact Pull.nil _ | (apply Pull.cons; (focus (repeat (first | exact One.here _ _ | apply One.there))))))) ?_ no_pan
    rintro _ _ ⟨_, ⟨ap, sja, rfl, hJa, rfl⟩, rfl⟩
    refine op_v (p_move (fun _=>rfl)) ?_
    refine op_v (p_extract (fun _=>rfl) rfl) ?_
    refine op_v (p_extract (fun _=>rfl) rfl) ?_
    refine op_e (w_alloc Tryz.zeroValue144 (cs := #[_, _]) rfl) (fun _=>rfl) rfl rfl ?_
    rintro _ _ ⟨oa1, rfl, rfl⟩
    refine op_e (w_store_agg Tryz.sizeOf144 (fun _=>rfl) (fun _=>rfl) (by first | (simp [Value.oneCell']; done) | (simp [Value.oneCell', Value.cells]; done)) (by repeat (first | exact Upd.here _ | apply Upd.there)) (by rfl) (by first | rfl | (simp; done)) (by first | decide | exact Nat.le_refl _ | (simp; done) | (simp; omega)) (by exact free_zero _)) (fun _=>rfl) rfl rfl ?_
    rintro _ _ ⟨rfl, rfl⟩
    refine op_v (p_assign (fun _=>rfl)) ?_
    refine ops_nil ?_
    refine nx_next ?_
    refine at_seq ?_
    refine at_seq ?_
    refine at_region ?_
    refine op_v (p_move (fun _=>rfl)) ?_
    first | refine op_v (p_neq_nat (n := 0) (fun _=>rfl) (fun _=>rfl)) ?_ | refine op_v (p_neq (fun _=>rfl) (fun _=>rfl)) ?_
    refine ops_nil ?_
    refine nx_next ?_
    first | refine at_if (fun _=>rfl) (fun hq4 => ?_) (fun hq4 => ?_) | refine at_if_bool (fun _=>rfl) (fun hq4 => ?_) (fun hq4 => ?_)
    ·
     exact absurd rfl hq4
    ·
     refine at_skip ?_
     refine nx_next ?_
     refine at_seq ?_
     refine at_region ?_
     refine op_v (p_move (fun _=>rfl)) ?_
     refine ops_eff (fun _=>rfl) (fits_of rfl) rfl (w_call (vs := [_]) (fun _=>rfl) Tryz.call68 (fun _=>rfl) rfl (opened_jd jb db b sdb pa Tx Tg zx zg hDb hRb) (by repeat (first | exact Pull.nil _ | (apply Pull.cons; (focus (repeat (first | exact One.here _ _ | apply One.there))))))) ?_ no_pan
     rintro _ _ ⟨_, ⟨bp, sjb, rfl, hJb, rfl⟩, rfl⟩
     refine op_v (p_move (fun _=>rfl)) ?_
     refine op_v (p_extract (fun _=>rfl) rfl) ?_
     refine op_v (p_extract (fun _=>rfl) rfl) ?_
     refine op_e (w_alloc Tryz.zeroValue144 (cs := #[_, _]) rfl) (fun _=>rfl) rfl rfl ?_
     rintro _ _ ⟨ob1, rfl, rfl⟩
     refine op_e (w_store_agg Tryz.sizeOf144 (fun _=>rfl) (fun _=>rfl) (by first | (simp [Value.oneCell']; done) | (simp [Value.oneCell', Value.cells]; done)) (by repeat (first | exact Upd.here _ | apply Upd.there)) (by rfl) (by first | rfl | (simp; done)) (by first | decide | exact Nat.le_refl _ | (simp; done) | (simp; omega)) (by exact free_zero _)) (fun _=>rfl) rfl rfl ?_
     rintro _ _ ⟨rfl, rfl⟩
     refine op_v (p_assign (fun _=>rfl)) ?_
     refine ops_nil ?_
     refine nx_slots (env' := [(6, _), (7, _), (8, _)]) [6, 7, 8] rfl (fun _=>rfl) ?_
     refine nx_next ?_
     refine at_seq ?_
     refine at_seq ?_
     refine at_region ?_
     refine op_v (p_move (fun _=>rfl)) ?_
     first | refine op_v (p_neq_nat (n := 0) (fun _=>rfl) (fun _=>rfl)) ?_ | refine op_v (p_neq (fun _=>rfl) (fun _=>rfl)) ?_
     refine ops_nil ?_
     refine nx_next ?_
     first | refine at_if (fun _=>rfl) (fun hq5 => ?_) (fun hq5 => ?_) | refine at_if_bool (fun _=>rfl) (fun hq5 => ?_) (fun hq5 => ?_)
     ·
      exact absurd rfl hq5
     ·
      refine at_skip ?_
      refine nx_next ?_
      refine at_seq ?_
      refine at_draw (n := 6) (0 :: 1 :: 0 :: 4 :: 3 :: 31 :: []) 0 (by kernel_rfl) (by kernel_rfl) rfl ?_
      refine lin_r (D' := 1) 0 rfl rfl rfl (by repeat (first | exact Has.here _ | apply Has.there)) (p_load_agg (cs := #[_, _]) Tryz.isAgg144 Tryz.sizeOf144 (fun _=>rfl) (by first | decide | exact Nat.le_refl _ | (simp; done) | (simp; omega)) (by rfl)) ?_
      refine lin_v (D' := 3) 1 (p_makeFunc (vs := [_]) (us := []) (fun _=>rfl) (fun _=>rfl)) ?_
      refine lin_r (D' := 7) 2 rfl rfl rfl (by repeat (first | exact Has.here _ | apply Has.there)) (p_load_agg (cs := #[_, _]) Tryz.isAgg144 Tryz.sizeOf144 (fun _=>rfl) (by first | decide | exact Nat.le_refl _ | (simp; done) | (simp; omega)) (by rfl)) ?_
      refine lin_v (D' := 15) 3 (p_makeFunc (vs := [_]) (us := []) (fun _=>rfl) (fun _=>rfl)) ?_
      refine lin_v (D' := 31) 4 (p_assign (fun _=>rfl)) ?_
      refine lin_v (D' := 63) 5 (p_assign (fun _=>rfl)) ?_
      refine lin_nil ?_
      refine nx_next ?_
      refine at_seq ?_
      refine at_region ?_
      refine op_v (p_move (fun _=>rfl)) ?_
      refine ops_eff (fun _=>rfl) (fits_of rfl) rfl (w_call (vs := []) (fun _=>rfl) Tryz.call69 (fun _=>rfl) rfl (list_any ja ap a m ia sja hJa hLa) (by repeat (first | exact Pull.nil _ | (apply Pull.cons; (focus (repeat (first | exact One.here _ _ | apply One.there))))))) ?_ no_pan
      rintro _ _ ⟨_, ⟨va, sva, rfl, hva, rfl⟩, rfl⟩
      obtain ⟨gva, cva, rfl⟩ := hva.form
      refine op_v (p_move (fun _=>rfl)) ?_
      refine op_v (p_extract (fun _=>rfl) rfl) ?_
      refine op_v (p_extract (fun _=>rfl) rfl) ?_
      refine op_v (p_extract (fun _=>rfl) rfl) ?_
      refine op_v (p_assign (fun _=>rfl)) ?_
      refine op_v (p_assign (fun _=>rfl)) ?_
      refine op_v (p_assign (fun _=>rfl)) ?_
      refine ops_nil ?_
      refine nx_slots (env' := [(6, _), (8, _), (10, _), (11, _), (12, _), (13, _)]) [6, 8, 10, 11, 12, 13] rfl (fun _=>rfl) ?_
      refine nx_next ?_
      refine at_seq ?_
      refine at_region ?_
      refine op_v (p_move (fun _=>rfl)) ?_
      refine ops_eff (fun _=>rfl) (fits_of rfl) rfl (w_call (vs := []) (fun _=>rfl) Tryz.call69 (fun _=>rfl) rfl (list_any jb bp b n ib sjb hJb hLb) (by repeat (first | exact Pull.nil _ | (apply Pull.cons; (focus (repeat (first | exact One.here _ _ | apply One.there))))))) ?_ no_pan
      rintro _ _ ⟨_, ⟨vb, svb, rfl, hvb, rfl⟩, rfl⟩
      obtain ⟨gvb, cvb, rfl⟩ := hvb.form
      refine op_v (p_move (fun _=>rfl)) ?_
      refine op_v (p_extract (fun _=>rfl) rfl) ?_
      refine op_v (p_extract (fun _=>rfl) rfl) ?_
      refine op_v (p_extract (fun _=>rfl) rfl) ?_
      refine op_v (p_assign (fun _=>rfl)) ?_
      refine op_v (p_assign (fun _=>rfl)) ?_
      refine op_v (p_assign (fun _=>rfl)) ?_
      refine ops_nil ?_
      refine nx_next ?_
      refine at_seq ?_
      refine at_block ?_
      refine at_seq ?_
      refine at_region ?_
      refine op_v (p_move (fun _=>rfl)) ?_
      first | refine op_v (p_not_dec (fun _=>rfl)) ?_ | refine op_v (p_not (fun _=>rfl)) ?_
      refine op_v (p_move (fun _=>rfl)) ?_
      first | refine ops_split (t := 64) (fun _=>rfl) rfl (fun hg1 => ?_) (fun hg1 => ?_) | refine ops_split_bool (t := 64) (fun _=>rfl) rfl (fun hg1 => ?_) (fun hg1 => ?_)
      ·
       exfalso; first | (cases hg1; done) | omega | (simp at hg1; done) | (simp_all; done)
      ·
       refine op_wg (fun _=>rfl) (p_move (fun _=>rfl)) rfl rfl ?_
       first | refine op_wg (fun _=>rfl) (p_not_dec (fun _=>rfl)) rfl rfl ?_ | refine op_wg (fun _=>rfl) (p_not (fun _=>rfl)) rfl rfl ?_
       refine op_v (p_pick_f (fun _=>rfl) (fun _=>rfl)) ?_
       refine op_v (p_move (fun _=>rfl)) ?_
       first | refine ops_split (t := 68) (fun _=>rfl) rfl (fun hg2 => ?_) (fun hg2 => ?_) | refine ops_split_bool (t := 68) (fun _=>rfl) rfl (fun hg2 => ?_) (fun hg2 => ?_)
       ·
        exfalso; first | (cases hg2; done) | omega | (simp at hg2; done) | (simp_all; done)
       ·
        refine op_wg (fun _=>rfl) (p_move (fun _=>rfl)) rfl rfl ?_
        refine op_wg (fun _=>rfl) (p_move (fun _=>rfl)) rfl rfl ?_
        first | refine op_wg (fun _=>rfl) (p_eql_nat (fun _=>rfl) (fun _=>rfl)) rfl rfl ?_ | refine op_wg (fun _=>rfl) (p_eql (fun _=>rfl) (fun _=>rfl)) rfl rfl ?_
        refine op_wg (fun _=>rfl) (p_move (fun _=>rfl)) rfl rfl ?_
        first | refine ops_split (t := 72) (fun _=>rfl) rfl (fun hg3 => ?_) (fun hg3 => ?_) | refine ops_split_bool (t := 72) (fun _=>rfl) rfl (fun hg3 => ?_) (fun hg3 => ?_)
        ·
         exfalso; first | (cases hg3; done) | omega | (simp at hg3; done) | (simp_all; done)
        ·
         refine op_skip (fun _=>rfl) rfl ?_
         refine op_skip (fun _=>rfl) rfl ?_
         refine op_wg (fun _=>rfl) (p_pick_f (fun _=>rfl) (fun _=>rfl)) rfl rfl ?_
         refine op_v (p_pick_f (fun _=>rfl) (fun _=>rfl)) ?_
         refine op_v (p_assign (fun _=>rfl)) ?_
         refine ops_nil ?_
         refine nx_slots (env' := [(6, _), (8, _), (11, _), (12, _), (14, _), (15, _), (61, _)]) [6, 8, 11, 12, 14, 15, 61] rfl (fun _=>rfl) ?_
         refine nx_next ?_
         refine at_else (fun _=>rfl) ?_
         refine at_seq ?_
         refine at_region ?_
         refine op_v (p_move (fun _=>rfl)) ?_
         refine op_v (p_move (fun _=>rfl)) ?_
         first | refine op_v (p_gtr_nat (fun _=>rfl) (fun _=>rfl)) ?_ | refine op_v (p_gtr (fun _=>rfl) (fun _=>rfl)) ?_
         refine op_v (p_assign (fun _=>rfl)) ?_
         refine ops_nil ?_
         refine nx_next ?_
         first | refine at_if (fun _=>rfl) (fun hg4 => ?_) (fun hg4 => ?_) | refine at_if_bool (fun _=>rfl) (fun hg4 => ?_) (fun hg4 => ?_)
         ·
          refine at_seq ?_
          refine at_region ?_
          refine op_r (by repeat (first | exact Has.here _ | apply Has.there)) (p_load_agg (cs := #[_, _]) Tryz.isAgg144 Tryz.sizeOf144 (fun _=>rfl) (by first | decide | exact Nat.le_refl _ | (simp; done) | (simp; omega)) (by rfl)) rfl rfl ?_
          refine op_r (by repeat (first | exact Has.here _ | apply Has.there)) (p_load_agg (cs := #[_, _]) Tryz.isAgg144 Tryz.sizeOf144 (fun _=>rfl) (by first | decide | exact Nat.le_refl _ | (simp; done) | (simp; omega)) (by rfl)) rfl rfl ?_
          refine op_v (p_move (fun _=>rfl)) ?_
          refine op_v (p_move (fun _=>rfl)) ?_
          refine op_w (p_build (vs := [(0, _), (1, _), (2, _), (3, _)]) (fun _=>rfl) (run_build_struct (pl := #[(0, 2), (2, 2), (4, 1), (5, 1), (6, 1)]) Tryz.zeroValue150 Tryz.underlying150 (fun _ => by kernel_rfl) (fill_store _ _ _ _ _ _ _ _ _))) rfl rfl ?_
          refine op_e (w_box (fun _=>rfl) (cs := #[_, _, _, _, _, _, _]) rfl) (fun _=>rfl) rfl rfl ?_
          rintro _ _ ⟨sp, rfl, rfl⟩
          refine op_v (p_assign (fun _=>rfl)) ?_
          refine op_v (p_assign (fun _=>rfl)) ?_
          refine ops_nil ?_
          refine nx_next ?_
          refine at_ret ?_
          refine nx_block_ret ?_
          refine nx_thru (by intro h; cases h) ?_
          refine nx_end2 (H' := _) rfl Tryz.results23 (fun _=>rfl) (fun _=>rfl) (by exact ⟨_, ap, bp, _, svb, sja, sjb, rfl, hJa, hJb, hvb, rfl⟩)
         ·
          exfalso; first | (cases hg4; done) | omega | (simp at hg4; done) | (simp_all; done)

theorem open_new (a b m n : Nat) (ja jb : JrS) (da db : DiskS) (sda sdb : List Chunk) (ia ib : List (List UInt8)) (pa : Addr) (Tx Tg : TypeId) (zx zg : Nat × Nat) (hab : a ≠ b) (hDa : JD ja da) (hDb : JD jb db) (hRa : DiskR da a sda) (hRb : DiskR db b sdb) (hLa : LstOk ja.rs m ia) (hLb : LstOk jb.rs n ib) (hm : m = 0) (hn : n = 0) (hja : ja = j0) (hsz : 36 ≤ da.vi.length) :
    Does Tryz.prog 23 #[.pointer (some ⟨a, 0, none⟩), .pointer (some ⟨b, 0, none⟩)] [sda, sdb, [(4, .cells (kTab.map u32v).toArray Tg zg)], [(0, .cells #[.iface 299 (.pointer (some pa))] Tx zx)]] (fun r H' => ∃ sp ap bp v sv sja sjb j1 d1 sd1, r = .tuple #[.pointer (some ⟨sp, 0, none⟩), .int .i64 0] ∧ JD j1 d1 ∧ d1.vi.length = da.vi.length ∧ j1.rs = recsOf 1 [] ∧ j1.sz = 36 ∧ JrR j1 ap a sja ∧ DiskR d1 a sd1 ∧ JrR jb bp b sjb ∧ Row 9 v (ia.map strV) sv ∧ H' = [[(sp, .cells #[.pointer (some ⟨ap, 0, none⟩), .pointer (some ⟨a, 0, none⟩), .pointer (some ⟨bp, 0, none⟩), .pointer (some ⟨b, 0, none⟩), .int .i64 1, v, .int .i64 0] 150 (0, 0))], sv, sja, sjb, sd1, sdb, [(4, .cells (kTab.map u32v).toArray Tg zg)], [(0, .cells #[.iface 299 (.pointer (some pa))] Tx zx)]]) := by
 obtain ⟨csa, hca⟩ := hRa.cell
 obtain ⟨csb, hcb⟩ := hRb.cell
 refine spec_enter Tryz.func23 rfl Tryz.ntmps23 rfl ?_
 intro u R
 refine at_slots (env' := [(0, _), (1, _)]) [0, 1] rfl (fun _=>rfl) ?_
 refine at_seq ?_
 refine at_region ?_
 refine op_v (p_assign (fun _=>rfl)) ?_
 refine op_v (p_assign (fun _=>rfl)) ?_
 refine ops_nil ?_
 refine nx_next ?_
 refine at_seq ?_
 refine at_block ?_
 refine at_seq ?_
 refine at_region ?_
 refine op_v (p_move (fun _=>rfl)) ?_
 first | refine op_v (p_eql_nil_nil Tryz.underlying26 (fun _=>rfl) (fun _=>rfl)) ?_ | refine op_v (p_eql_ptr_nil Tryz.underlying26 (fun _=>rfl) (fun _=>rfl)) ?_
 refine op_v (p_move (fun _=>rfl)) ?_
 refine ops_split_bool (t := 21) (fun _=>rfl) rfl (fun hq1 => ?_) (fun hq1 => ?_)
 ·
  cases hq1
 ·
  refine op_wg (fun _=>rfl) (p_move (fun _=>rfl)) rfl rfl ?_
  first | refine op_wg (fun _=>rfl) (p_eql_nil_nil Tryz.underlying26 (fun _=>rfl) (fun _=>rfl)) rfl rfl ?_ | refine op_wg (fun _=>rfl) (p_eql_ptr_nil Tryz.underlying26 (fun _=>rfl) (fun _=>rfl)) rfl rfl ?_
  refine op_v (p_pick_f (fun _=>rfl) (fun _=>rfl)) ?_
  refine op_v (p_assign (fun _=>rfl)) ?_
  refine ops_nil ?_
  refine nx_next ?_
  refine at_if_bool (fun _=>rfl) (fun hq2 => ?_) (fun hq2 => ?_)
  ·
   cases hq2
  ·
   refine at_seq ?_
   refine at_region ?_
   refine op_v (p_move (fun _=>rfl)) ?_
   refine op_v (p_move (fun _=>rfl)) ?_
   refine op_rm (cs := [(a, .cells csa 103 (0, 0)), (b, .cells csb 103 (0, 0))]) (by simp [hca, hcb]) (p_eql_ptr_ne Tryz.underlying26 (rfl : Tryz.prog.info? 103 = some Tryz.t103) (by decide) hab (fun _=>rfl) (fun _=>rfl)) rfl rfl ?_
   refine op_v (p_assign (fun _=>rfl)) ?_
   refine ops_nil ?_
   refine nx_slots (env' := [(0, _), (1, _), (25, _)]) [0, 1, 25] rfl (fun _=>rfl) ?_
   refine nx_next ?_
   refine at_if_bool (fun _=>rfl) (fun hq3 => ?_) (fun hq3 => ?_)
   ·
    cases hq3
   ·
    refine at_skip ?_
    refine nx_block_normal ?_
    refine nx_next ?_
    refine at_seq ?_
    refine at_region ?_
    refine op_v (p_move (fun _=>rfl)) ?_
    refine ops_eff (fun _=>rfl) (fits_of rfl) rfl (w_call (vs := [_]) (fun _=>rfl) Tryz.call68 (fun _=>rfl) rfl (opened_jd ja da a sda pa Tx Tg zx zg hDa hRa) (by repeat (first | exact Pull.nil _ | (apply Pull.cons; (focus (repeat (first | exact One.here _ _ | apply One.there))))))) ?_ no_pan
    rintro _ _ ⟨_, ⟨ap, sja, rfl, hJa, rfl⟩, rfl⟩
    refine op_v (p_move (fun _=>rfl)) ?_
    refine op_v (p_extract (fun _=>rfl) rfl) ?_
    refine op_v (p_extract (fun _=>rfl) rfl) ?_
    refine op_e (w_alloc Tryz.zeroValue144 (cs := #[_, _]) rfl) (fun _=>rfl) rfl rfl ?_
    rintro _ _ ⟨oa1, rfl, rfl⟩
    refine op_e (w_store_agg Tryz.sizeOf144 (fun _=>rfl) (fun _=>rfl) (by first | (simp [Value.oneCell']; done) | (simp [Value.oneCell', Value.cells]; done)) (by repeat (first | exact Upd.here _ | apply Upd.there)) (by rfl) (by first | rfl | (simp; done)) (by first | decide | exact Nat.le_refl _ | (simp; done) | (simp; omega)) (by exact free_zero _)) (fun _=>rfl) rfl rfl ?_
    rintro _ _ ⟨rfl, rfl⟩
    refine op_v (p_assign (fun _=>rfl)) ?_
    refine ops_nil ?_
    refine nx_next ?_
    refine at_seq ?_
    refine at_seq ?_
    refine at_region ?_
    refine op_v (p_move (fun _=>rfl)) ?_
    first | refine op_v (p_neq_nat (n := 0) (fun _=>rfl) (fun _=>rfl)) ?_ | refine op_v (p_neq (fun _=>rfl) (fun _=>rfl)) ?_
    refine ops_nil ?_
    refine nx_next ?_
    first | refine at_if (fun _=>rfl) (fun hq4 => ?_) (fun hq4 => ?_) | refine at_if_bool (fun _=>rfl) (fun hq4 => ?_) (fun hq4 => ?_)
    ·
     exact absurd rfl hq4
    ·
     refine at_skip ?_
     refine nx_next ?_
     refine at_seq ?_
     refine at_region ?_
     refine op_v (p_move (fun _=>rfl)) ?_
     refine ops_eff (fun _=>rfl) (fits_of rfl) rfl (w_call (vs := [_]) (fun _=>rfl) Tryz.call68 (fun _=>rfl) rfl (opened_jd jb db b sdb pa Tx Tg zx zg hDb hRb) (by repeat (first | exact Pull.nil _ | (apply Pull.cons; (focus (repeat (first | exact One.here _ _ | apply One.there))))))) ?_ no_pan
     rintro _ _ ⟨_, ⟨bp, sjb, rfl, hJb, rfl⟩, rfl⟩
     refine op_v (p_move (fun _=>rfl)) ?_
     refine op_v (p_extract (fun _=>rfl) rfl) ?_
     refine op_v (p_extract (fun _=>rfl) rfl) ?_
     refine op_e (w_alloc Tryz.zeroValue144 (cs := #[_, _]) rfl) (fun _=>rfl) rfl rfl ?_
     rintro _ _ ⟨ob1, rfl, rfl⟩
     refine op_e (w_store_agg Tryz.sizeOf144 (fun _=>rfl) (fun _=>rfl) (by first | (simp [Value.oneCell']; done) | (simp [Value.oneCell', Value.cells]; done)) (by repeat (first | exact Upd.here _ | apply Upd.there)) (by rfl) (by first | rfl | (simp; done)) (by first | decide | exact Nat.le_refl _ | (simp; done) | (simp; omega)) (by exact free_zero _)) (fun _=>rfl) rfl rfl ?_
     rintro _ _ ⟨rfl, rfl⟩
     refine op_v (p_assign (fun _=>rfl)) ?_
     refine ops_nil ?_
     refine nx_slots (env' := [(6, _), (7, _), (8, _)]) [6, 7, 8] rfl (fun _=>rfl) ?_
     refine nx_next ?_
     refine at_seq ?_
     refine at_seq ?_
     refine at_region ?_
     refine op_v (p_move (fun _=>rfl)) ?_
     first | refine op_v (p_neq_nat (n := 0) (fun _=>rfl) (fun _=>rfl)) ?_ | refine op_v (p_neq (fun _=>rfl) (fun _=>rfl)) ?_
     refine ops_nil ?_
     refine nx_next ?_
     first | refine at_if (fun _=>rfl) (fun hq5 => ?_) (fun hq5 => ?_) | refine at_if_bool (fun _=>rfl) (fun hq5 => ?_) (fun hq5 => ?_)
     ·
      exact absurd rfl hq5
     ·
      refine at_skip ?_
      refine nx_next ?_
      refine at_seq ?_
      refine at_draw (n := 6) (0 :: 1 :: 0 :: 4 :: 3 :: 31 :: []) 0 (by kernel_rfl) (by kernel_rfl) rfl ?_
      refine lin_r (D' := 1) 0 rfl rfl rfl (by repeat (first | exact Has.here _ | apply Has.there)) (p_load_agg (cs := #[_, _]) Tryz.isAgg144 Tryz.sizeOf144 (fun _=>rfl) (by first | decide | exact Nat.le_refl _ | (simp; done) | (simp; omega)) (by rfl)) ?_
      refine lin_v (D' := 3) 1 (p_makeFunc (vs := [_]) (us := []) (fun _=>rfl) (fun _=>rfl)) ?_
      refine lin_r (D' := 7) 2 rfl rfl rfl (by repeat (first | exact Has.here _ | apply Has.there)) (p_load_agg (cs := #[_, _]) Tryz.isAgg144 Tryz.sizeOf144 (fun _=>rfl) (by first | decide | exact Nat.le_refl _ | (simp; done) | (simp; omega)) (by rfl)) ?_
      refine lin_v (D' := 15) 3 (p_makeFunc (vs := [_]) (us := []) (fun _=>rfl) (fun _=>rfl)) ?_
      refine lin_v (D' := 31) 4 (p_assign (fun _=>rfl)) ?_
      refine lin_v (D' := 63) 5 (p_assign (fun _=>rfl)) ?_
      refine lin_nil ?_
      refine nx_next ?_
      refine at_seq ?_
      refine at_region ?_
      refine op_v (p_move (fun _=>rfl)) ?_
      refine ops_eff (fun _=>rfl) (fits_of rfl) rfl (w_call (vs := []) (fun _=>rfl) Tryz.call69 (fun _=>rfl) rfl (list_any ja ap a m ia sja hJa hLa) (by repeat (first | exact Pull.nil _ | (apply Pull.cons; (focus (repeat (first | exact One.here _ _ | apply One.there))))))) ?_ no_pan
      rintro _ _ ⟨_, ⟨va, sva, rfl, hva, rfl⟩, rfl⟩
      obtain ⟨gva, cva, rfl⟩ := hva.form
      refine op_v (p_move (fun _=>rfl)) ?_
      refine op_v (p_extract (fun _=>rfl) rfl) ?_
      refine op_v (p_extract (fun _=>rfl) rfl) ?_
      refine op_v (p_extract (fun _=>rfl) rfl) ?_
      refine op_v (p_assign (fun _=>rfl)) ?_
      refine op_v (p_assign (fun _=>rfl)) ?_
      refine op_v (p_assign (fun _=>rfl)) ?_
      refine ops_nil ?_
      refine nx_slots (env' := [(6, _), (8, _), (10, _), (11, _), (12, _), (13, _)]) [6, 8, 10, 11, 12, 13] rfl (fun _=>rfl) ?_
      refine nx_next ?_
      refine at_seq ?_
      refine at_region ?_
      refine op_v (p_move (fun _=>rfl)) ?_
      refine ops_eff (fun _=>rfl) (fits_of rfl) rfl (w_call (vs := []) (fun _=>rfl) Tryz.call69 (fun _=>rfl) rfl (list_any jb bp b n ib sjb hJb hLb) (by repeat (first | exact Pull.nil _ | (apply Pull.cons; (focus (repeat (first | exact One.here _ _ | apply One.there))))))) ?_ no_pan
      rintro _ _ ⟨_, ⟨vb, svb, rfl, hvb, rfl⟩, rfl⟩
      obtain ⟨gvb, cvb, rfl⟩ := hvb.form
      refine op_v (p_move (fun _=>rfl)) ?_
      refine op_v (p_extract (fun _=>rfl) rfl) ?_
      refine op_v (p_extract (fun _=>rfl) rfl) ?_
      refine op_v (p_extract (fun _=>rfl) rfl) ?_
      refine op_v (p_assign (fun _=>rfl)) ?_
      refine op_v (p_assign (fun _=>rfl)) ?_
      refine op_v (p_assign (fun _=>rfl)) ?_
      refine ops_nil ?_
      refine nx_next ?_
      refine at_seq ?_
      refine at_block ?_
      refine at_seq ?_
      refine at_region ?_
      refine op_v (p_move (fun _=>rfl)) ?_
      first | refine op_v (p_not_dec (fun _=>rfl)) ?_ | refine op_v (p_not (fun _=>rfl)) ?_
      refine op_v (p_move (fun _=>rfl)) ?_
      first | refine ops_split (t := 64) (fun _=>rfl) rfl (fun hg1 => ?_) (fun hg1 => ?_) | refine ops_split_bool (t := 64) (fun _=>rfl) rfl (fun hg1 => ?_) (fun hg1 => ?_)
      ·
       exfalso; first | (cases hg1; done) | omega | (simp at hg1; done) | (simp_all; done)
      ·
       refine op_wg (fun _=>rfl) (p_move (fun _=>rfl)) rfl rfl ?_
       first | refine op_wg (fun _=>rfl) (p_not_dec (fun _=>rfl)) rfl rfl ?_ | refine op_wg (fun _=>rfl) (p_not (fun _=>rfl)) rfl rfl ?_
       refine op_v (p_pick_f (fun _=>rfl) (fun _=>rfl)) ?_
       refine op_v (p_move (fun _=>rfl)) ?_
       first | refine ops_split (t := 68) (fun _=>rfl) rfl (fun hg2 => ?_) (fun hg2 => ?_) | refine ops_split_bool (t := 68) (fun _=>rfl) rfl (fun hg2 => ?_) (fun hg2 => ?_)
       ·
        exfalso; first | (cases hg2; done) | omega | (simp at hg2; done) | (simp_all; done)
       ·
        refine op_wg (fun _=>rfl) (p_move (fun _=>rfl)) rfl rfl ?_
        refine op_wg (fun _=>rfl) (p_move (fun _=>rfl)) rfl rfl ?_
        first | refine op_wg (fun _=>rfl) (p_eql_nat (fun _=>rfl) (fun _=>rfl)) rfl rfl ?_ | refine op_wg (fun _=>rfl) (p_eql (fun _=>rfl) (fun _=>rfl)) rfl rfl ?_
        refine op_wg (fun _=>rfl) (p_move (fun _=>rfl)) rfl rfl ?_
        first | refine ops_split (t := 72) (fun _=>rfl) rfl (fun hg3 => ?_) (fun hg3 => ?_) | refine ops_split_bool (t := 72) (fun _=>rfl) rfl (fun hg3 => ?_) (fun hg3 => ?_)
        ·
         refine op_wg (fun _=>rfl) (p_move (fun _=>rfl)) rfl rfl ?_
         first | refine op_wg (fun _=>rfl) (p_gtr_nat (n := 0) (fun _=>rfl) (fun _=>rfl)) rfl rfl ?_ | refine op_wg (fun _=>rfl) (p_gtr (fun _=>rfl) (fun _=>rfl)) rfl rfl ?_
         refine op_wg (fun _=>rfl) (p_pick_t (fun _=>rfl) (fun _=>rfl)) rfl rfl ?_
         refine op_v (p_pick_f (fun _=>rfl) (fun _=>rfl)) ?_
         refine op_v (p_assign (fun _=>rfl)) ?_
         refine ops_nil ?_
         refine nx_slots (env' := [(6, _), (8, _), (11, _), (12, _), (14, _), (15, _), (61, _)]) [6, 8, 11, 12, 14, 15, 61] rfl (fun _=>rfl) ?_
         refine nx_next ?_
         first | refine at_if (fun _=>rfl) (fun hg9 => ?_) (fun hg9 => ?_) | refine at_if_bool (fun _=>rfl) (fun hg9 => ?_) (fun hg9 => ?_)
         ·
          exfalso; first | (cases hg9; done) | omega | (simp at hg9; done) | (simp_all; done)
         ·
          refine at_seq ?_
          refine at_region ?_
          refine op_v (p_move (fun _=>rfl)) ?_
          refine op_v (p_move (fun _=>rfl)) ?_
          first | refine op_v (p_gtr_nat (fun _=>rfl) (fun _=>rfl)) ?_ | refine op_v (p_gtr (fun _=>rfl) (fun _=>rfl)) ?_
          refine op_v (p_assign (fun _=>rfl)) ?_
          refine ops_nil ?_
          refine nx_next ?_
          first | refine at_if (fun _=>rfl) (fun hg4 => ?_) (fun hg4 => ?_) | refine at_if_bool (fun _=>rfl) (fun hg4 => ?_) (fun hg4 => ?_)
          ·
           exfalso; first | (cases hg4; done) | omega | (simp at hg4; done) | (simp_all; done)
          ·
           refine at_seq ?_
           refine at_region ?_
           refine op_v (p_move (fun _=>rfl)) ?_
           first | refine op_v (p_eql_nat (n := 0) (fun _=>rfl) (fun _=>rfl)) ?_ | refine op_v (p_eql (fun _=>rfl) (fun _=>rfl)) ?_
           refine op_v (p_assign (fun _=>rfl)) ?_
           refine ops_nil ?_
           refine nx_next ?_
           first | refine at_if (fun _=>rfl) (fun hg5 => ?_) (fun hg5 => ?_) | refine at_if_bool (fun _=>rfl) (fun hg5 => ?_) (fun hg5 => ?_)
           ·
            refine at_seq ?_
            refine at_region ?_
            refine op_v (p_assign (fun _=>rfl)) ?_
            refine ops_nil ?_
            refine nx_next ?_
            refine at_seq ?_
            refine at_draw (n := 7) (0 :: 1 :: 0 :: 4 :: 12 :: 31 :: 63 :: []) 56 (by kernel_rfl) (by kernel_rfl) rfl ?_
            refine lin_v (D' := 1) 0 (p_fieldAddr0 (off := 0) Tryz.underlying144 rfl rfl Tryz.sizeOf30 (fun _=>rfl)) ?_
            refine lin_r (D' := 3) 1 rfl rfl rfl (by repeat (first | exact Has.here _ | apply Has.there)) (p_load Tryz.isAgg30 (fun _=>rfl) (by rfl)) ?_
            refine lin_v (D' := 7) 2 (p_move (fun _=>rfl)) ?_
            refine lin_eff (l := [3]) (by kernel_rfl) (by kernel_rfl) ?_
            refine each_cons (m := 4) (D' := 15) (is := [1]) (bs := [true]) (T' := [(1, (_, _))]) rfl (fun _=>rfl) rfl rfl rfl (by kernel_rfl) rfl (w_callR (vs := [_]) (fun _=>rfl) Tryz.call70 (fun _=>rfl) rfl (header_spec 1 (by decide)) (by repeat (first | exact Pull.nil _ | (apply Pull.cons; (focus (repeat (first | exact One.here _ _ | apply One.there))))))) ?hk_1 (fun _ _ h => h.elim) ?hl_1
            case hk_1 =>
             rintro _ _ ⟨rfl, rfl⟩
             refine ⟨keep_cons (by repeat (first | exact Has.here _ | apply Has.there)) (keep_nil), ?_⟩
             refine lin_eff (l := [4]) (by kernel_rfl) (by kernel_rfl) ?_
             refine each_cons (m := 12) (D' := 31) (is := [1]) (bs := [true]) (T' := [(1, (_, _))]) rfl (fun _=>rfl) rfl rfl rfl (by kernel_rfl) rfl (w_buildSlice (vs := [_]) (cs := [_]) Tryz.underlying43 Tryz.sizeOf9 Tryz.zeroValue9 (fun _=>rfl) rfl rfl rfl rfl rfl) ?hk_2 (fun _ _ h => h.elim) ?hl_2
             case hk_2 =>
              rintro _ _ ⟨gh, rfl, rfl⟩
              refine ⟨keep_cons (by repeat (first | exact Has.here _ | apply Has.there)) (keep_nil), ?_⟩
              refine lin_eff (l := [5]) (by kernel_rfl) (by kernel_rfl) ?_
              refine each_cons (m := 31) (D' := 63) (is := [1]) (bs := [false]) (T' := []) rfl (fun _=>rfl) rfl rfl rfl (by kernel_rfl) rfl (w_call (vs := [_, _]) (fun _=>rfl) Tryz.call13 (fun _=>rfl) rfl (jd_append ja da ap a sja _ sda _ [hdr 1] Tg zg hDa hJa hRa (row_new _ gh ([hdr 1].map strV) 1 rfl (by decide)) (by intro r hr; simp at hr; subst hr; have := hdr_len 1 (by decide); omega) (by decide)) (by repeat (first | exact Pull.nil _ | (apply Pull.cons; (focus (repeat (first | exact One.here _ _ | apply One.there))))))) ?hk_3 no_pan ?hl_3
              case hk_3 =>
               rintro _ _ ⟨_, ⟨e1, j1, d1, sj1, sd1, rfl, hD1, hv1, ho1, hJ1, hR1, rfl⟩, rfl⟩
               refine ⟨keep_nil, ?_⟩
               subst hja
               have hx1 : e1 = 0 ∧ j1.rs = recsOf 1 [] ∧ j1.sz = 36 := by
                 have h36 : (outL j0.h [hdr 1]).length = 36 := hdr1_len
                 rw [h36] at ho1
                 rcases ho1 with ⟨h, _⟩ | ⟨_, h1, h2, h3⟩
                 · exfalso; simp only at h; omega
                 · exact ⟨h1, by rw [h2]; rfl, by rw [h3]⟩
               obtain ⟨rfl, hrs1, hz1⟩ := hx1
               refine lin_v (D' := 127) 6 (p_assign (fun _=>rfl)) ?_
               refine lin_nil ?_
               refine nx_slots (env' := [(6, _), (8, _), (11, _), (12, _), (17, _)]) [6, 8, 11, 12, 17] rfl (fun _=>rfl) ?_
               refine nx_next ?_
               refine at_seq ?_
               refine at_region ?_
               refine op_v (p_move (fun _=>rfl)) ?_
               first | refine op_v (p_neq_nat (n := 0) (fun _=>rfl) (fun _=>rfl)) ?_ | refine op_v (p_neq (fun _=>rfl) (fun _=>rfl)) ?_
               refine ops_nil ?_
               refine nx_next ?_
               first | refine at_if (fun _=>rfl) (fun hq8 => ?_) (fun hq8 => ?_) | refine at_if_bool (fun _=>rfl) (fun hq8 => ?_) (fun hq8 => ?_)
               ·
                exact absurd rfl hq8
               ·
                refine at_skip ?_
                refine nx_block_normal ?_
                refine nx_next ?_
                refine at_seq ?_
                refine at_region ?_
                refine op_r (by repeat (first | exact Has.here _ | apply Has.there)) (p_load_agg (cs := #[_, _]) Tryz.isAgg144 Tryz.sizeOf144 (fun _=>rfl) (by first | decide | exact Nat.le_refl _ | (simp; done) | (simp; omega)) (by rfl)) rfl rfl ?_
                refine op_r (by repeat (first | exact Has.here _ | apply Has.there)) (p_load_agg (cs := #[_, _]) Tryz.isAgg144 Tryz.sizeOf144 (fun _=>rfl) (by first | decide | exact Nat.le_refl _ | (simp; done) | (simp; omega)) (by rfl)) rfl rfl ?_
                refine op_v (p_move (fun _=>rfl)) ?_
                refine op_v (p_move (fun _=>rfl)) ?_
                refine op_w (p_build (vs := [(0, _), (1, _), (2, _), (3, _)]) (fun _=>rfl) (run_build_struct (pl := #[(0, 2), (2, 2), (4, 1), (5, 1), (6, 1)]) Tryz.zeroValue150 Tryz.underlying150 (fun _ => by kernel_rfl) (fill_store _ _ _ _ _ _ _ _ _))) rfl rfl ?_
                refine op_e (w_box (fun _=>rfl) (cs := #[_, _, _, _, _, _, _]) rfl) (fun _=>rfl) rfl rfl ?_
                rintro _ _ ⟨sp, rfl, rfl⟩
                refine op_v (p_assign (fun _=>rfl)) ?_
                refine op_v (p_assign (fun _=>rfl)) ?_
                refine ops_nil ?_
                refine nx_next ?_
                refine at_ret ?_
                refine nx_end2 (H' := _) rfl Tryz.results23 (fun _=>rfl) (fun _=>rfl) (by exact ⟨_, ap, bp, _, sva, sj1, sjb, j1, d1, sd1, rfl, hD1, hv1, hrs1, hz1, hJ1, hR1, hJb, hva, rfl⟩)
              case hl_3 =>
               exact each_nil
             case hl_2 =>
              exact each_nil
            case hl_1 =>
             exact each_nil
           ·
            exfalso; first | (cases hg5; done) | omega | (simp at hg5; done) | (simp_all; done)
        ·
         exfalso; first | (cases hg3; done) | omega | (simp at hg3; done) | (simp_all; done)

end Go.Proofs.YthbadolcncojbaaGreatDoor
