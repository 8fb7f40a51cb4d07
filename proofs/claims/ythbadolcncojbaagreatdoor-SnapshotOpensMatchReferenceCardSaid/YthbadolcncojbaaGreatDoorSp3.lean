/- Package snapshot: Open. -/
import Derived.Test.YthbadolcncojbaaGreatDoorEz
import Derived.Test.YthbadolcncojbaaGreatDoorSp2
namespace Go.Proofs.YthbadolcncojbaaGreatDoor
open Go.Proofs.Tryz
open Go Go.RowKit Gw
set_option linter.unusedVariables false
set_option maxRecDepth 100000
attribute [local irreducible] Gw.At Gw.Nx Gw.Ops
theorem fill_store (a b c d : Value) (k : IntKind) (n : Int) (p : Option Addr) (l m : Nat) : Instr.fill (fun x => (#[(0, 2), (2, 2), (4, 1), (5, 1), (6, 1)] : Array (Nat × Nat))[x]?) #[.pointer none, .pointer none, .pointer none, .pointer none, .int .i64 0, .slice none 0 0, .int .i64 0] [(0, .agg #[a, b]), (1, .agg #[c, d]), (2, .int k n), (3, .slice p l m)] = some #[a, b, c, d, .int k n, .slice p l m, .int .i64 0] := by
  simp [Instr.fill, Value.cells]
theorem hdr1_len : (outL zero32 [hdr 1]).length = 36 := by
  have h : (hdr 1).length = 2 := by unfold hdr; rw [List.length_cons]; have := encI_one 1 (by decide); omega
  have a := recS_one zero32 (hdr 1) (by omega)
  simp only [outL, List.length_append, a, h, List.length_nil]

theorem open_one (a b m n : Nat) (ja jb : JrS) (da db : DiskS) (sda sdb : List Chunk) (ia ib : List (List UInt8)) (pa : Addr) (Tx Tg : TypeId) (zx zg : Nat × Nat) (hab : a ≠ b) (hDa : JD ja da) (hDb : JD jb db) (hRa : DiskR da a sda) (hRb : DiskR db b sdb) (hLa : LstOk ja.rs m ia) (hLb : LstOk jb.rs n ib) (hmn : n < m) :
    Does Tryz.prog 23 #[.pointer (some ⟨a, 0, none⟩), .pointer (some ⟨b, 0, none⟩)] [sda, sdb, [(4, .cells (kTab.map u32v).toArray Tg zg)], [(0, .cells #[.iface 299 (.pointer (some pa))] Tx zx)]] (fun r H' => ∃ sp ap bp v sv sja sjb, r = .tuple #[.pointer (some ⟨sp, 0, none⟩), .int .i64 0] ∧ JrR ja ap a sja ∧ JrR jb bp b sjb ∧ Row 9 v (ia.map strV) sv ∧ H' = [[(sp, .cells #[.pointer (some ⟨ap, 0, none⟩), .pointer (some ⟨a, 0, none⟩), .pointer (some ⟨bp, 0, none⟩), .pointer (some ⟨b, 0, none⟩), .int .i64 (m : Int), v, .int .i64 0] 150 (0, 0))], sv, sja, sjb, sda, sdb, [(4, .cells (kTab.map u32v).toArray Tg zg)], [(0, .cells #[.iface 299 (.pointer (some pa))] Tx zx)]]) := by
 obtain ⟨csa, hca⟩ := hRa.cell
 obtain ⟨csb, hcb⟩ := hRb.cell
 refine spec_enter func23 rfl ntmps23 rfl ?_
 intro u R
 refine Zb [0, 1] ?_
 refine Zq <| Zg <| Za Y <| Za Y <| Z0 <| Zx <| Zq <| at_block <| Zq <| Zg <| Zm Y ?_
 first | refine op_v (p_eql_nil_nil underlying26 Y Y) ?_ | refine op_v (p_eql_ptr_nil underlying26 Y Y) ?_
 refine Zm Y ?_
 refine ops_split_bool (t := 21) Y rfl (fun hq1 => ?_) (fun hq1 => ?_)
 ·
  cases hq1
 ·
  refine Zf Y Y ?_
  first | refine op_wg Y (p_eql_nil_nil underlying26 Y Y) rfl rfl ?_ | refine op_wg Y (p_eql_ptr_nil underlying26 Y Y) rfl rfl ?_
  refine Zv (p_pick_f Y Y) <| Za Y <| Z0 <| Zx ?_
  refine at_if_bool Y (fun hq2 => ?_) (fun hq2 => ?_)
  ·
   cases hq2
  ·
   refine Zq <| Zg <| Zm Y <| Zm Y ?_
   refine op_rm (cs := [(a, .cells csa 103 (0, 0)), (b, .cells csb 103 (0, 0))]) (by simp [hca, hcb]) (p_eql_ptr_ne underlying26 (rfl : Tryz.prog.info? 103 = some Tryz.t103) (by decide) hab Y Y) rfl rfl ?_
   refine Za Y <| Z0 <| Zn [0, 1, 25] ?_
   refine Zx ?_
   refine at_if_bool Y (fun hq3 => ?_) (fun hq3 => ?_)
   ·
    cases hq3
   ·
    refine at_skip <| nx_block_normal <| Zx <| Zq <| Zg <| Zm Y <| Zc [_] Y call68 Y rfl (opened_jd ja da a sda pa Tx Tg zx zg hDa hRa) ?_
    rintro _ _ ⟨_, ⟨ap, sja, rfl, hJa, rfl⟩, rfl⟩
    refine Zm Y <| Zd Y rfl <| Zd Y rfl <| Ze (w_alloc zeroValue144 (cs := #[_, _]) rfl) ?_
    rintro _ _ ⟨oa1, rfl, rfl⟩
    refine Ze (w_store_agg sizeOf144 Y Y (by first | (simp [Value.oneCell']; done) | (simp [Value.oneCell', Value.cells]; done)) (by repeat (first | exact Upd.here _ | apply Upd.there)) (by rfl) (by first | rfl | (simp; done)) (by first | decide | exact Nat.le_refl _ | (simp; done) | (simp; omega)) (by exact free_zero _)) ?_
    rintro _ _ ⟨rfl, rfl⟩
    refine Za Y <| Z0 <| Zx <| Zq <| Zq <| Zg <| Zm Y ?_
    first | refine op_v (p_neq_nat (n := 0) Y Y) ?_ | refine op_v (p_neq Y Y) ?_
    refine Z0 <| Zx ?_
    first | refine at_if Y (fun hq4 => ?_) (fun hq4 => ?_) | refine at_if_bool Y (fun hq4 => ?_) (fun hq4 => ?_)
    ·
     exact absurd rfl hq4
    ·
     refine at_skip <| Zx <| Zq <| Zg <| Zm Y <| Zc [_] Y call68 Y rfl (opened_jd jb db b sdb pa Tx Tg zx zg hDb hRb) ?_
     rintro _ _ ⟨_, ⟨bp, sjb, rfl, hJb, rfl⟩, rfl⟩
     refine Zm Y <| Zd Y rfl <| Zd Y rfl <| Ze (w_alloc zeroValue144 (cs := #[_, _]) rfl) ?_
     rintro _ _ ⟨ob1, rfl, rfl⟩
     refine Ze (w_store_agg sizeOf144 Y Y (by first | (simp [Value.oneCell']; done) | (simp [Value.oneCell', Value.cells]; done)) (by repeat (first | exact Upd.here _ | apply Upd.there)) (by rfl) (by first | rfl | (simp; done)) (by first | decide | exact Nat.le_refl _ | (simp; done) | (simp; omega)) (by exact free_zero _)) ?_
     rintro _ _ ⟨rfl, rfl⟩
     refine Za Y <| Z0 <| Zn [6, 7, 8] ?_
     refine Zx <| Zq <| Zq <| Zg <| Zm Y ?_
     first | refine op_v (p_neq_nat (n := 0) Y Y) ?_ | refine op_v (p_neq Y Y) ?_
     refine Z0 <| Zx ?_
     first | refine at_if Y (fun hq5 => ?_) (fun hq5 => ?_) | refine at_if_bool Y (fun hq5 => ?_) (fun hq5 => ?_)
     ·
      exact absurd rfl hq5
     ·
      refine at_skip <| Zx <| Zq <| at_draw (n := 6) (0 :: 1 :: 0 :: 4 :: 3 :: 31 :: []) 0 (by kernel_rfl) (by kernel_rfl) rfl ?_
      refine lin_r (D' := 1) 0 rfl rfl rfl (by repeat (first | exact Has.here _ | apply Has.there)) (p_load_agg (cs := #[_, _]) isAgg144 sizeOf144 Y (by first | decide | exact Nat.le_refl _ | (simp; done) | (simp; omega)) (by rfl)) ?_
      refine Zi 3 1 rfl (p_makeFunc (vs := [_]) (us := []) Y Y) ?_
      refine lin_r (D' := 7) 2 rfl rfl rfl (by repeat (first | exact Has.here _ | apply Has.there)) (p_load_agg (cs := #[_, _]) isAgg144 sizeOf144 Y (by first | decide | exact Nat.le_refl _ | (simp; done) | (simp; omega)) (by rfl)) ?_
      refine Zi 15 3 rfl (p_makeFunc (vs := [_]) (us := []) Y Y) ?_
      refine Zi 31 4 rfl (p_assign Y) <| Zi 63 5 rfl (p_assign Y) <| lin_nil ?_
      refine Zx <| Zq <| Zg <| Zm Y <| Zc [] Y call69 Y rfl (list_any ja ap a m ia sja hJa hLa) ?_
      rintro _ _ ⟨_, ⟨va, sva, rfl, hva, rfl⟩, rfl⟩
      obtain ⟨gva, cva, rfl⟩ := hva.form
      refine Zm Y <| Zd Y rfl <| Zd Y rfl <| Zd Y rfl <| Za Y <| Za Y <| Za Y <| Z0 <| Zn [6, 8, 10, 11, 12, 13] ?_
      refine Zx <| Zq <| Zg <| Zm Y <| Zc [] Y call69 Y rfl (list_any jb bp b n ib sjb hJb hLb) ?_
      rintro _ _ ⟨_, ⟨vb, svb, rfl, hvb, rfl⟩, rfl⟩
      obtain ⟨gvb, cvb, rfl⟩ := hvb.form
      refine Zm Y <| Zd Y rfl <| Zd Y rfl <| Zd Y rfl <| Za Y <| Za Y <| Za Y <| Z0 <| Zx <| Zq <| at_block <| Zq <| Zg <| Zm Y ?_
      first | refine op_v (p_not_dec Y) ?_ | refine op_v (p_not Y) ?_
      refine Zm Y ?_
      first | refine ops_split (t := 64) Y rfl (fun hg1 => ?_) (fun hg1 => ?_) | refine ops_split_bool (t := 64) Y rfl (fun hg1 => ?_) (fun hg1 => ?_)
      ·
       exfalso; first | (cases hg1; done) | omega | (simp at hg1; done) | (simp_all; done)
      ·
       refine Zf Y Y ?_
       first | refine op_wg Y (p_not_dec Y) rfl rfl ?_ | refine op_wg Y (p_not Y) rfl rfl ?_
       refine Zv (p_pick_f Y Y) <| Zm Y ?_
       first | refine ops_split (t := 68) Y rfl (fun hg2 => ?_) (fun hg2 => ?_) | refine ops_split_bool (t := 68) Y rfl (fun hg2 => ?_) (fun hg2 => ?_)
       ·
        exfalso; first | (cases hg2; done) | omega | (simp at hg2; done) | (simp_all; done)
       ·
        refine Zf Y Y <| Zf Y Y ?_
        first | refine op_wg Y (p_eql_nat Y Y) rfl rfl ?_ | refine op_wg Y (p_eql Y Y) rfl rfl ?_
        refine Zf Y Y ?_
        first | refine ops_split (t := 72) Y rfl (fun hg3 => ?_) (fun hg3 => ?_) | refine ops_split_bool (t := 72) Y rfl (fun hg3 => ?_) (fun hg3 => ?_)
        ·
         exfalso; first | (cases hg3; done) | omega | (simp at hg3; done) | (simp_all; done)
        ·
         refine op_skip Y rfl <| op_skip Y rfl <| op_wg Y (p_pick_f Y Y) rfl rfl ?_
         refine Zv (p_pick_f Y Y) <| Za Y <| Z0 <| Zn [6, 8, 11, 12, 14, 15, 61] ?_
         refine Zx <| at_else Y <| Zq <| Zg <| Zm Y <| Zm Y ?_
         first | refine op_v (p_gtr_nat Y Y) ?_ | refine op_v (p_gtr Y Y) ?_
         refine Za Y <| Z0 <| Zx ?_
         first | refine at_if Y (fun hg4 => ?_) (fun hg4 => ?_) | refine at_if_bool Y (fun hg4 => ?_) (fun hg4 => ?_)
         ·
          exfalso; first | (cases hg4; done) | omega | (simp at hg4; done) | (simp_all; done)
         ·
          refine Zq <| Zg <| Zm Y ?_
          first | refine op_v (p_eql_nat (n := 0) Y Y) ?_ | refine op_v (p_eql Y Y) ?_
          refine Za Y <| Z0 <| Zx ?_
          first | refine at_if Y (fun hg5 => ?_) (fun hg5 => ?_) | refine at_if_bool Y (fun hg5 => ?_) (fun hg5 => ?_)
          ·
           exfalso; first | (cases hg5; done) | omega | (simp at hg5; done) | (simp_all; done)
          ·
           refine at_skip <| nx_block_normal <| Zx <| Zq <| Zg <| Zo (by repeat (first | exact Has.here _ | apply Has.there)) (p_load_agg (cs := #[_, _]) isAgg144 sizeOf144 Y (by first | decide | exact Nat.le_refl _ | (simp; done) | (simp; omega)) (by rfl)) ?_
           refine Zo (by repeat (first | exact Has.here _ | apply Has.there)) (p_load_agg (cs := #[_, _]) isAgg144 sizeOf144 Y (by first | decide | exact Nat.le_refl _ | (simp; done) | (simp; omega)) (by rfl)) ?_
           refine Zm Y <| Zm Y <| op_w (p_build (vs := [(0, _), (1, _), (2, _), (3, _)]) Y (run_build_struct (pl := #[(0, 2), (2, 2), (4, 1), (5, 1), (6, 1)]) zeroValue150 underlying150 (fun _ => by kernel_rfl) (fill_store _ _ _ _ _ _ _ _ _))) rfl rfl ?_
           refine Ze (w_box Y (cs := #[_, _, _, _, _, _, _]) rfl) ?_
           rintro _ _ ⟨sp, rfl, rfl⟩
           refine Za Y <| Za Y <| Z0 <| Zn [4, 5] ?_
           refine Zx <| at_ret ?_
           refine nx_end2 rfl results23 Y Y (by exact ⟨_, ap, bp, _, sva, sja, sjb, rfl, hJa, hJb, hva, rfl⟩)

theorem open_two (a b m n : Nat) (ja jb : JrS) (da db : DiskS) (sda sdb : List Chunk) (ia ib : List (List UInt8)) (pa : Addr) (Tx Tg : TypeId) (zx zg : Nat × Nat) (hab : a ≠ b) (hDa : JD ja da) (hDb : JD jb db) (hRa : DiskR da a sda) (hRb : DiskR db b sdb) (hLa : LstOk ja.rs m ia) (hLb : LstOk jb.rs n ib) (hmn : m < n) :
    Does Tryz.prog 23 #[.pointer (some ⟨a, 0, none⟩), .pointer (some ⟨b, 0, none⟩)] [sda, sdb, [(4, .cells (kTab.map u32v).toArray Tg zg)], [(0, .cells #[.iface 299 (.pointer (some pa))] Tx zx)]] (fun r H' => ∃ sp ap bp v sv sja sjb, r = .tuple #[.pointer (some ⟨sp, 0, none⟩), .int .i64 0] ∧ JrR ja ap a sja ∧ JrR jb bp b sjb ∧ Row 9 v (ib.map strV) sv ∧ H' = [[(sp, .cells #[.pointer (some ⟨bp, 0, none⟩), .pointer (some ⟨b, 0, none⟩), .pointer (some ⟨ap, 0, none⟩), .pointer (some ⟨a, 0, none⟩), .int .i64 (n : Int), v, .int .i64 0] 150 (0, 0))], sv, sja, sjb, sda, sdb, [(4, .cells (kTab.map u32v).toArray Tg zg)], [(0, .cells #[.iface 299 (.pointer (some pa))] Tx zx)]]) := by
 obtain ⟨csa, hca⟩ := hRa.cell
 obtain ⟨csb, hcb⟩ := hRb.cell
 refine spec_enter func23 rfl ntmps23 rfl ?_
 intro u R
 refine Zb [0, 1] ?_
 refine Zq <| Zg <| Za Y <| Za Y <| Z0 <| Zx <| Zq <| at_block <| Zq <| Zg <| Zm Y ?_
 first | refine op_v (p_eql_nil_nil underlying26 Y Y) ?_ | refine op_v (p_eql_ptr_nil underlying26 Y Y) ?_
 refine Zm Y ?_
 refine ops_split_bool (t := 21) Y rfl (fun hq1 => ?_) (fun hq1 => ?_)
 ·
  cases hq1
 ·
  refine Zf Y Y ?_
  first | refine op_wg Y (p_eql_nil_nil underlying26 Y Y) rfl rfl ?_ | refine op_wg Y (p_eql_ptr_nil underlying26 Y Y) rfl rfl ?_
  refine Zv (p_pick_f Y Y) <| Za Y <| Z0 <| Zx ?_
  refine at_if_bool Y (fun hq2 => ?_) (fun hq2 => ?_)
  ·
   cases hq2
  ·
   refine Zq <| Zg <| Zm Y <| Zm Y ?_
   refine op_rm (cs := [(a, .cells csa 103 (0, 0)), (b, .cells csb 103 (0, 0))]) (by simp [hca, hcb]) (p_eql_ptr_ne underlying26 (rfl : Tryz.prog.info? 103 = some Tryz.t103) (by decide) hab Y Y) rfl rfl ?_
   refine Za Y <| Z0 <| Zn [0, 1, 25] ?_
   refine Zx ?_
   refine at_if_bool Y (fun hq3 => ?_) (fun hq3 => ?_)
   ·
    cases hq3
   ·
    refine at_skip <| nx_block_normal <| Zx <| Zq <| Zg <| Zm Y <| Zc [_] Y call68 Y rfl (opened_jd ja da a sda pa Tx Tg zx zg hDa hRa) ?_
    rintro _ _ ⟨_, ⟨ap, sja, rfl, hJa, rfl⟩, rfl⟩
    refine Zm Y <| Zd Y rfl <| Zd Y rfl <| Ze (w_alloc zeroValue144 (cs := #[_, _]) rfl) ?_
    rintro _ _ ⟨oa1, rfl, rfl⟩
    refine Ze (w_store_agg sizeOf144 Y Y (by first | (simp [Value.oneCell']; done) | (simp [Value.oneCell', Value.cells]; done)) (by repeat (first | exact Upd.here _ | apply Upd.there)) (by rfl) (by first | rfl | (simp; done)) (by first | decide | exact Nat.le_refl _ | (simp; done) | (simp; omega)) (by exact free_zero _)) ?_
    rintro _ _ ⟨rfl, rfl⟩
    refine Za Y <| Z0 <| Zx <| Zq <| Zq <| Zg <| Zm Y ?_
    first | refine op_v (p_neq_nat (n := 0) Y Y) ?_ | refine op_v (p_neq Y Y) ?_
    refine Z0 <| Zx ?_
    first | refine at_if Y (fun hq4 => ?_) (fun hq4 => ?_) | refine at_if_bool Y (fun hq4 => ?_) (fun hq4 => ?_)
    ·
     exact absurd rfl hq4
    ·
     refine at_skip <| Zx <| Zq <| Zg <| Zm Y <| Zc [_] Y call68 Y rfl (opened_jd jb db b sdb pa Tx Tg zx zg hDb hRb) ?_
     rintro _ _ ⟨_, ⟨bp, sjb, rfl, hJb, rfl⟩, rfl⟩
     refine Zm Y <| Zd Y rfl <| Zd Y rfl <| Ze (w_alloc zeroValue144 (cs := #[_, _]) rfl) ?_
     rintro _ _ ⟨ob1, rfl, rfl⟩
     refine Ze (w_store_agg sizeOf144 Y Y (by first | (simp [Value.oneCell']; done) | (simp [Value.oneCell', Value.cells]; done)) (by repeat (first | exact Upd.here _ | apply Upd.there)) (by rfl) (by first | rfl | (simp; done)) (by first | decide | exact Nat.le_refl _ | (simp; done) | (simp; omega)) (by exact free_zero _)) ?_
     rintro _ _ ⟨rfl, rfl⟩
     refine Za Y <| Z0 <| Zn [6, 7, 8] ?_
     refine Zx <| Zq <| Zq <| Zg <| Zm Y ?_
     first | refine op_v (p_neq_nat (n := 0) Y Y) ?_ | refine op_v (p_neq Y Y) ?_
     refine Z0 <| Zx ?_
     first | refine at_if Y (fun hq5 => ?_) (fun hq5 => ?_) | refine at_if_bool Y (fun hq5 => ?_) (fun hq5 => ?_)
     ·
      exact absurd rfl hq5
     ·
      refine at_skip <| Zx <| Zq <| at_draw (n := 6) (0 :: 1 :: 0 :: 4 :: 3 :: 31 :: []) 0 (by kernel_rfl) (by kernel_rfl) rfl ?_
      refine lin_r (D' := 1) 0 rfl rfl rfl (by repeat (first | exact Has.here _ | apply Has.there)) (p_load_agg (cs := #[_, _]) isAgg144 sizeOf144 Y (by first | decide | exact Nat.le_refl _ | (simp; done) | (simp; omega)) (by rfl)) ?_
      refine Zi 3 1 rfl (p_makeFunc (vs := [_]) (us := []) Y Y) ?_
      refine lin_r (D' := 7) 2 rfl rfl rfl (by repeat (first | exact Has.here _ | apply Has.there)) (p_load_agg (cs := #[_, _]) isAgg144 sizeOf144 Y (by first | decide | exact Nat.le_refl _ | (simp; done) | (simp; omega)) (by rfl)) ?_
      refine Zi 15 3 rfl (p_makeFunc (vs := [_]) (us := []) Y Y) ?_
      refine Zi 31 4 rfl (p_assign Y) <| Zi 63 5 rfl (p_assign Y) <| lin_nil ?_
      refine Zx <| Zq <| Zg <| Zm Y <| Zc [] Y call69 Y rfl (list_any ja ap a m ia sja hJa hLa) ?_
      rintro _ _ ⟨_, ⟨va, sva, rfl, hva, rfl⟩, rfl⟩
      obtain ⟨gva, cva, rfl⟩ := hva.form
      refine Zm Y <| Zd Y rfl <| Zd Y rfl <| Zd Y rfl <| Za Y <| Za Y <| Za Y <| Z0 <| Zn [6, 8, 10, 11, 12, 13] ?_
      refine Zx <| Zq <| Zg <| Zm Y <| Zc [] Y call69 Y rfl (list_any jb bp b n ib sjb hJb hLb) ?_
      rintro _ _ ⟨_, ⟨vb, svb, rfl, hvb, rfl⟩, rfl⟩
      obtain ⟨gvb, cvb, rfl⟩ := hvb.form
      refine Zm Y <| Zd Y rfl <| Zd Y rfl <| Zd Y rfl <| Za Y <| Za Y <| Za Y <| Z0 <| Zx <| Zq <| at_block <| Zq <| Zg <| Zm Y ?_
      first | refine op_v (p_not_dec Y) ?_ | refine op_v (p_not Y) ?_
      refine Zm Y ?_
      first | refine ops_split (t := 64) Y rfl (fun hg1 => ?_) (fun hg1 => ?_) | refine ops_split_bool (t := 64) Y rfl (fun hg1 => ?_) (fun hg1 => ?_)
      ·
       exfalso; first | (cases hg1; done) | omega | (simp at hg1; done) | (simp_all; done)
      ·
       refine Zf Y Y ?_
       first | refine op_wg Y (p_not_dec Y) rfl rfl ?_ | refine op_wg Y (p_not Y) rfl rfl ?_
       refine Zv (p_pick_f Y Y) <| Zm Y ?_
       first | refine ops_split (t := 68) Y rfl (fun hg2 => ?_) (fun hg2 => ?_) | refine ops_split_bool (t := 68) Y rfl (fun hg2 => ?_) (fun hg2 => ?_)
       ·
        exfalso; first | (cases hg2; done) | omega | (simp at hg2; done) | (simp_all; done)
       ·
        refine Zf Y Y <| Zf Y Y ?_
        first | refine op_wg Y (p_eql_nat Y Y) rfl rfl ?_ | refine op_wg Y (p_eql Y Y) rfl rfl ?_
        refine Zf Y Y ?_
        first | refine ops_split (t := 72) Y rfl (fun hg3 => ?_) (fun hg3 => ?_) | refine ops_split_bool (t := 72) Y rfl (fun hg3 => ?_) (fun hg3 => ?_)
        ·
         exfalso; first | (cases hg3; done) | omega | (simp at hg3; done) | (simp_all; done)
        ·
         refine op_skip Y rfl <| op_skip Y rfl <| op_wg Y (p_pick_f Y Y) rfl rfl ?_
         refine Zv (p_pick_f Y Y) <| Za Y <| Z0 <| Zn [6, 8, 11, 12, 14, 15, 61] ?_
         refine Zx <| at_else Y <| Zq <| Zg <| Zm Y <| Zm Y ?_
         first | refine op_v (p_gtr_nat Y Y) ?_ | refine op_v (p_gtr Y Y) ?_
         refine Za Y <| Z0 <| Zx ?_
         first | refine at_if Y (fun hg4 => ?_) (fun hg4 => ?_) | refine at_if_bool Y (fun hg4 => ?_) (fun hg4 => ?_)
         ·
          refine Zq <| Zg <| Zo (by repeat (first | exact Has.here _ | apply Has.there)) (p_load_agg (cs := #[_, _]) isAgg144 sizeOf144 Y (by first | decide | exact Nat.le_refl _ | (simp; done) | (simp; omega)) (by rfl)) ?_
          refine Zo (by repeat (first | exact Has.here _ | apply Has.there)) (p_load_agg (cs := #[_, _]) isAgg144 sizeOf144 Y (by first | decide | exact Nat.le_refl _ | (simp; done) | (simp; omega)) (by rfl)) ?_
          refine Zm Y <| Zm Y <| op_w (p_build (vs := [(0, _), (1, _), (2, _), (3, _)]) Y (run_build_struct (pl := #[(0, 2), (2, 2), (4, 1), (5, 1), (6, 1)]) zeroValue150 underlying150 (fun _ => by kernel_rfl) (fill_store _ _ _ _ _ _ _ _ _))) rfl rfl ?_
          refine Ze (w_box Y (cs := #[_, _, _, _, _, _, _]) rfl) ?_
          rintro _ _ ⟨sp, rfl, rfl⟩
          refine Za Y <| Za Y <| Z0 <| Zx <| at_ret <| nx_block_ret <| Zt ?_
          refine nx_end2 rfl results23 Y Y (by exact ⟨_, ap, bp, _, svb, sja, sjb, rfl, hJa, hJb, hvb, rfl⟩)
         ·
          exfalso; first | (cases hg4; done) | omega | (simp at hg4; done) | (simp_all; done)

theorem open_new (a b m n : Nat) (ja jb : JrS) (da db : DiskS) (sda sdb : List Chunk) (ia ib : List (List UInt8)) (pa : Addr) (Tx Tg : TypeId) (zx zg : Nat × Nat) (hab : a ≠ b) (hDa : JD ja da) (hDb : JD jb db) (hRa : DiskR da a sda) (hRb : DiskR db b sdb) (hLa : LstOk ja.rs m ia) (hLb : LstOk jb.rs n ib) (hm : m = 0) (hn : n = 0) (hja : ja = j0) (hsz : 36 ≤ da.vi.length) :
    Does Tryz.prog 23 #[.pointer (some ⟨a, 0, none⟩), .pointer (some ⟨b, 0, none⟩)] [sda, sdb, [(4, .cells (kTab.map u32v).toArray Tg zg)], [(0, .cells #[.iface 299 (.pointer (some pa))] Tx zx)]] (fun r H' => ∃ sp ap bp v sv sja sjb j1 d1 sd1, r = .tuple #[.pointer (some ⟨sp, 0, none⟩), .int .i64 0] ∧ JD j1 d1 ∧ d1.vi.length = da.vi.length ∧ j1.rs = recsOf 1 [] ∧ j1.sz = 36 ∧ JrR j1 ap a sja ∧ DiskR d1 a sd1 ∧ JrR jb bp b sjb ∧ Row 9 v (ia.map strV) sv ∧ H' = [[(sp, .cells #[.pointer (some ⟨ap, 0, none⟩), .pointer (some ⟨a, 0, none⟩), .pointer (some ⟨bp, 0, none⟩), .pointer (some ⟨b, 0, none⟩), .int .i64 1, v, .int .i64 0] 150 (0, 0))], sv, sja, sjb, sd1, sdb, [(4, .cells (kTab.map u32v).toArray Tg zg)], [(0, .cells #[.iface 299 (.pointer (some pa))] Tx zx)]]) := by
 obtain ⟨csa, hca⟩ := hRa.cell
 obtain ⟨csb, hcb⟩ := hRb.cell
 refine spec_enter func23 rfl ntmps23 rfl ?_
 intro u R
 refine Zb [0, 1] ?_
 refine Zq <| Zg <| Za Y <| Za Y <| Z0 <| Zx <| Zq <| at_block <| Zq <| Zg <| Zm Y ?_
 first | refine op_v (p_eql_nil_nil underlying26 Y Y) ?_ | refine op_v (p_eql_ptr_nil underlying26 Y Y) ?_
 refine Zm Y ?_
 refine ops_split_bool (t := 21) Y rfl (fun hq1 => ?_) (fun hq1 => ?_)
 ·
  cases hq1
 ·
  refine Zf Y Y ?_
  first | refine op_wg Y (p_eql_nil_nil underlying26 Y Y) rfl rfl ?_ | refine op_wg Y (p_eql_ptr_nil underlying26 Y Y) rfl rfl ?_
  refine Zv (p_pick_f Y Y) <| Za Y <| Z0 <| Zx ?_
  refine at_if_bool Y (fun hq2 => ?_) (fun hq2 => ?_)
  ·
   cases hq2
  ·
   refine Zq <| Zg <| Zm Y <| Zm Y ?_
   refine op_rm (cs := [(a, .cells csa 103 (0, 0)), (b, .cells csb 103 (0, 0))]) (by simp [hca, hcb]) (p_eql_ptr_ne underlying26 (rfl : Tryz.prog.info? 103 = some Tryz.t103) (by decide) hab Y Y) rfl rfl ?_
   refine Za Y <| Z0 <| Zn [0, 1, 25] ?_
   refine Zx ?_
   refine at_if_bool Y (fun hq3 => ?_) (fun hq3 => ?_)
   ·
    cases hq3
   ·
    refine at_skip <| nx_block_normal <| Zx <| Zq <| Zg <| Zm Y <| Zc [_] Y call68 Y rfl (opened_jd ja da a sda pa Tx Tg zx zg hDa hRa) ?_
    rintro _ _ ⟨_, ⟨ap, sja, rfl, hJa, rfl⟩, rfl⟩
    refine Zm Y <| Zd Y rfl <| Zd Y rfl <| Ze (w_alloc zeroValue144 (cs := #[_, _]) rfl) ?_
    rintro _ _ ⟨oa1, rfl, rfl⟩
    refine Ze (w_store_agg sizeOf144 Y Y (by first | (simp [Value.oneCell']; done) | (simp [Value.oneCell', Value.cells]; done)) (by repeat (first | exact Upd.here _ | apply Upd.there)) (by rfl) (by first | rfl | (simp; done)) (by first | decide | exact Nat.le_refl _ | (simp; done) | (simp; omega)) (by exact free_zero _)) ?_
    rintro _ _ ⟨rfl, rfl⟩
    refine Za Y <| Z0 <| Zx <| Zq <| Zq <| Zg <| Zm Y ?_
    first | refine op_v (p_neq_nat (n := 0) Y Y) ?_ | refine op_v (p_neq Y Y) ?_
    refine Z0 <| Zx ?_
    first | refine at_if Y (fun hq4 => ?_) (fun hq4 => ?_) | refine at_if_bool Y (fun hq4 => ?_) (fun hq4 => ?_)
    ·
     exact absurd rfl hq4
    ·
     refine at_skip <| Zx <| Zq <| Zg <| Zm Y <| Zc [_] Y call68 Y rfl (opened_jd jb db b sdb pa Tx Tg zx zg hDb hRb) ?_
     rintro _ _ ⟨_, ⟨bp, sjb, rfl, hJb, rfl⟩, rfl⟩
     refine Zm Y <| Zd Y rfl <| Zd Y rfl <| Ze (w_alloc zeroValue144 (cs := #[_, _]) rfl) ?_
     rintro _ _ ⟨ob1, rfl, rfl⟩
     refine Ze (w_store_agg sizeOf144 Y Y (by first | (simp [Value.oneCell']; done) | (simp [Value.oneCell', Value.cells]; done)) (by repeat (first | exact Upd.here _ | apply Upd.there)) (by rfl) (by first | rfl | (simp; done)) (by first | decide | exact Nat.le_refl _ | (simp; done) | (simp; omega)) (by exact free_zero _)) ?_
     rintro _ _ ⟨rfl, rfl⟩
     refine Za Y <| Z0 <| Zn [6, 7, 8] ?_
     refine Zx <| Zq <| Zq <| Zg <| Zm Y ?_
     first | refine op_v (p_neq_nat (n := 0) Y Y) ?_ | refine op_v (p_neq Y Y) ?_
     refine Z0 <| Zx ?_
     first | refine at_if Y (fun hq5 => ?_) (fun hq5 => ?_) | refine at_if_bool Y (fun hq5 => ?_) (fun hq5 => ?_)
     ·
      exact absurd rfl hq5
     ·
      refine at_skip <| Zx <| Zq <| at_draw (n := 6) (0 :: 1 :: 0 :: 4 :: 3 :: 31 :: []) 0 (by kernel_rfl) (by kernel_rfl) rfl ?_
      refine lin_r (D' := 1) 0 rfl rfl rfl (by repeat (first | exact Has.here _ | apply Has.there)) (p_load_agg (cs := #[_, _]) isAgg144 sizeOf144 Y (by first | decide | exact Nat.le_refl _ | (simp; done) | (simp; omega)) (by rfl)) ?_
      refine Zi 3 1 rfl (p_makeFunc (vs := [_]) (us := []) Y Y) ?_
      refine lin_r (D' := 7) 2 rfl rfl rfl (by repeat (first | exact Has.here _ | apply Has.there)) (p_load_agg (cs := #[_, _]) isAgg144 sizeOf144 Y (by first | decide | exact Nat.le_refl _ | (simp; done) | (simp; omega)) (by rfl)) ?_
      refine Zi 15 3 rfl (p_makeFunc (vs := [_]) (us := []) Y Y) ?_
      refine Zi 31 4 rfl (p_assign Y) <| Zi 63 5 rfl (p_assign Y) <| lin_nil ?_
      refine Zx <| Zq <| Zg <| Zm Y <| Zc [] Y call69 Y rfl (list_any ja ap a m ia sja hJa hLa) ?_
      rintro _ _ ⟨_, ⟨va, sva, rfl, hva, rfl⟩, rfl⟩
      obtain ⟨gva, cva, rfl⟩ := hva.form
      refine Zm Y <| Zd Y rfl <| Zd Y rfl <| Zd Y rfl <| Za Y <| Za Y <| Za Y <| Z0 <| Zn [6, 8, 10, 11, 12, 13] ?_
      refine Zx <| Zq <| Zg <| Zm Y <| Zc [] Y call69 Y rfl (list_any jb bp b n ib sjb hJb hLb) ?_
      rintro _ _ ⟨_, ⟨vb, svb, rfl, hvb, rfl⟩, rfl⟩
      obtain ⟨gvb, cvb, rfl⟩ := hvb.form
      refine Zm Y <| Zd Y rfl <| Zd Y rfl <| Zd Y rfl <| Za Y <| Za Y <| Za Y <| Z0 <| Zx <| Zq <| at_block <| Zq <| Zg <| Zm Y ?_
      first | refine op_v (p_not_dec Y) ?_ | refine op_v (p_not Y) ?_
      refine Zm Y ?_
      first | refine ops_split (t := 64) Y rfl (fun hg1 => ?_) (fun hg1 => ?_) | refine ops_split_bool (t := 64) Y rfl (fun hg1 => ?_) (fun hg1 => ?_)
      ·
       exfalso; first | (cases hg1; done) | omega | (simp at hg1; done) | (simp_all; done)
      ·
       refine Zf Y Y ?_
       first | refine op_wg Y (p_not_dec Y) rfl rfl ?_ | refine op_wg Y (p_not Y) rfl rfl ?_
       refine Zv (p_pick_f Y Y) <| Zm Y ?_
       first | refine ops_split (t := 68) Y rfl (fun hg2 => ?_) (fun hg2 => ?_) | refine ops_split_bool (t := 68) Y rfl (fun hg2 => ?_) (fun hg2 => ?_)
       ·
        exfalso; first | (cases hg2; done) | omega | (simp at hg2; done) | (simp_all; done)
       ·
        refine Zf Y Y <| Zf Y Y ?_
        first | refine op_wg Y (p_eql_nat Y Y) rfl rfl ?_ | refine op_wg Y (p_eql Y Y) rfl rfl ?_
        refine Zf Y Y ?_
        first | refine ops_split (t := 72) Y rfl (fun hg3 => ?_) (fun hg3 => ?_) | refine ops_split_bool (t := 72) Y rfl (fun hg3 => ?_) (fun hg3 => ?_)
        ·
         refine Zf Y Y ?_
         first | refine op_wg Y (p_gtr_nat (n := 0) Y Y) rfl rfl ?_ | refine op_wg Y (p_gtr Y Y) rfl rfl ?_
         refine op_wg Y (p_pick_t Y Y) rfl rfl ?_
         refine Zv (p_pick_f Y Y) <| Za Y <| Z0 <| Zn [6, 8, 11, 12, 14, 15, 61] ?_
         refine Zx ?_
         first | refine at_if Y (fun hg9 => ?_) (fun hg9 => ?_) | refine at_if_bool Y (fun hg9 => ?_) (fun hg9 => ?_)
         ·
          exfalso; first | (cases hg9; done) | omega | (simp at hg9; done) | (simp_all; done)
         ·
          refine Zq <| Zg <| Zm Y <| Zm Y ?_
          first | refine op_v (p_gtr_nat Y Y) ?_ | refine op_v (p_gtr Y Y) ?_
          refine Za Y <| Z0 <| Zx ?_
          first | refine at_if Y (fun hg4 => ?_) (fun hg4 => ?_) | refine at_if_bool Y (fun hg4 => ?_) (fun hg4 => ?_)
          ·
           exfalso; first | (cases hg4; done) | omega | (simp at hg4; done) | (simp_all; done)
          ·
           refine Zq <| Zg <| Zm Y ?_
           first | refine op_v (p_eql_nat (n := 0) Y Y) ?_ | refine op_v (p_eql Y Y) ?_
           refine Za Y <| Z0 <| Zx ?_
           first | refine at_if Y (fun hg5 => ?_) (fun hg5 => ?_) | refine at_if_bool Y (fun hg5 => ?_) (fun hg5 => ?_)
           ·
            refine Zq <| Zg <| Za Y <| Z0 <| Zx <| Zq <| at_draw (n := 7) (0 :: 1 :: 0 :: 4 :: 12 :: 31 :: 63 :: []) 56 (by kernel_rfl) (by kernel_rfl) rfl ?_
            refine Zi 1 0 rfl (p_fieldAddr0 (off := 0) underlying144 rfl rfl sizeOf30 Y) <| Zj 3 1 rfl isAgg30 Y ?_
            refine Zi 7 2 rfl (p_move Y) <| Zz (l := [3]) ?_
            refine Zy 4 15 [1] [true] [(1, (_, _))] rfl Y rfl rfl rfl rfl (Zu [_] Y call70 Y rfl (header_spec 1 (by decide))) ?hk_1 (fun _ _ h => h.elim) ?hl_1
            case hk_1 =>
             rintro _ _ ⟨rfl, rfl⟩
             refine ⟨Zk (keep_nil), ?_⟩
             refine Zz (l := [4]) ?_
             refine Zy 12 31 [1] [true] [(1, (_, _))] rfl Y rfl rfl rfl rfl (w_buildSlice (vs := [_]) (cs := [_]) underlying43 sizeOf9 zeroValue9 Y rfl rfl rfl rfl rfl) ?hk_2 (fun _ _ h => h.elim) ?hl_2
             case hk_2 =>
              rintro _ _ ⟨gh, rfl, rfl⟩
              refine ⟨Zk (keep_nil), ?_⟩
              refine Zz (l := [5]) ?_
              refine Zy 31 63 [1] [false] [] rfl Y rfl rfl rfl rfl (Zw [_, _] Y call13 Y rfl (jd_append ja da ap a sja _ sda _ [hdr 1] Tg zg hDa hJa hRa (row_new _ gh ([hdr 1].map strV) 1 rfl (by decide)) (by intro r hr; simp at hr; subst hr; have := hdr_len 1 (by decide); omega) (by decide))) ?hk_3 no_pan ?hl_3
              case hk_3 =>
               rintro _ _ ⟨_, ⟨e1, j1, d1, sj1, sd1, rfl, hD1, hv1, ho1, hJ1, hR1, rfl⟩, rfl⟩
               refine ⟨keep_nil, ?_⟩
               subst hja
               have hx1 : e1 = 0 ∧ j1.rs = recsOf 1 [] ∧ j1.sz = 36 := by
                 have h36 : (outL j0.h [hdr 1]).length = 36 := hdr1_len
                 rw [h36] at ho1
                 rcases ho1 with ⟨h, _⟩ | ⟨_, h1, h2, h3⟩
                 · exfalso; simp only at h; omega
                 · exact ⟨h1, by rw [h2]; rfl, by rw [h3]⟩
               obtain ⟨rfl, hrs1, hz1⟩ := hx1
               refine Zi 127 6 rfl (p_assign Y) <| lin_nil ?_
               refine Zn [6, 8, 11, 12, 17] ?_
               refine Zx <| Zq <| Zg <| Zm Y ?_
               first | refine op_v (p_neq_nat (n := 0) Y Y) ?_ | refine op_v (p_neq Y Y) ?_
               refine Z0 <| Zx ?_
               first | refine at_if Y (fun hq8 => ?_) (fun hq8 => ?_) | refine at_if_bool Y (fun hq8 => ?_) (fun hq8 => ?_)
               ·
                exact absurd rfl hq8
               ·
                refine at_skip <| nx_block_normal <| Zx <| Zq <| Zg <| Zo (by repeat (first | exact Has.here _ | apply Has.there)) (p_load_agg (cs := #[_, _]) isAgg144 sizeOf144 Y (by first | decide | exact Nat.le_refl _ | (simp; done) | (simp; omega)) (by rfl)) ?_
                refine Zo (by repeat (first | exact Has.here _ | apply Has.there)) (p_load_agg (cs := #[_, _]) isAgg144 sizeOf144 Y (by first | decide | exact Nat.le_refl _ | (simp; done) | (simp; omega)) (by rfl)) ?_
                refine Zm Y <| Zm Y <| op_w (p_build (vs := [(0, _), (1, _), (2, _), (3, _)]) Y (run_build_struct (pl := #[(0, 2), (2, 2), (4, 1), (5, 1), (6, 1)]) zeroValue150 underlying150 (fun _ => by kernel_rfl) (fill_store _ _ _ _ _ _ _ _ _))) rfl rfl ?_
                refine Ze (w_box Y (cs := #[_, _, _, _, _, _, _]) rfl) ?_
                rintro _ _ ⟨sp, rfl, rfl⟩
                refine Za Y <| Za Y <| Z0 <| Zx <| at_ret ?_
                refine nx_end2 rfl results23 Y Y (by exact ⟨_, ap, bp, _, sva, sj1, sjb, j1, d1, sd1, rfl, hD1, hv1, hrs1, hz1, hJ1, hR1, hJb, hva, rfl⟩)
              case hl_3 =>
               exact each_nil
             case hl_2 =>
              exact each_nil
            case hl_1 =>
             exact each_nil
           ·
            exfalso; first | (cases hg5; done) | omega | (simp at hg5; done) | (simp_all; done)
        ·
         exfalso; first | (cases hg3; done) | omega | (simp at hg3; done) | (simp_all; done)

end Go.Proofs.YthbadolcncojbaaGreatDoor
