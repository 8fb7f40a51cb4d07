/- Package snapshot in general: Append, Compact. Package snapshot in general: a store over plain states. -/
import Derived.Test.YthbadolcncojbaaGreatDoorEz
import Derived.Test.YthbadolcncojbaaGreatDoorGs2
import Derived.Test.YthbadolcncojbaaGreatDoorSp4

namespace Go.Proofs.YthbadolcncojbaaGreatDoor
open Go.Proofs.Tryz
open Go Go.RowKit Gw
set_option linter.unusedVariables false
set_option maxRecDepth 100000
attribute [local irreducible] Gw.At Gw.Nx Gw.Ops
theorem cptS_none {j : JrS} {d : DiskS} {gen : Nat} {ls : List (List UInt8)} (h : (ersS j d).2.1 = none) : cptS j d gen ls = ((ersS j d).1, j, (ersS j d).2.2) := by
  unfold cptS
  revert h
  cases ersS j d with
  | mk e y =>
    obtain ⟨jo, d'⟩ := y
    rintro rfl
    rfl
theorem cptS_some {j j1 : JrS} {d : DiskS} {gen : Nat} {ls : List (List UInt8)} (h : (ersS j d).2.1 = some j1) : cptS j d gen ls = j1.append (ersS j d).2.2 (recsOf (gen + 1) ls) := by
  unfold cptS
  revert h
  cases ersS j d with
  | mk e y =>
    obtain ⟨jo, d'⟩ := y
    rintro rfl
    rfl
theorem errS_no {e : Int} (h : e ≠ 231) : errS e = e := by unfold errS; rw [if_neg h]
theorem errS_full {e : Int} (h : ¬ e ≠ 231) : errS e = 0 := by unfold errS; rw [if_pos (Classical.not_not.1 h)]

theorem perm_cnt {l l' : List Chunk} (h : ∀ p : Chunk → Bool, l.countP p = l'.countP p) : l.Perm l' := by
  letI : DecidableEq Chunk := fun a b => Classical.propDecidable (a = b)
  exact List.perm_iff_count.2 fun a => h _
theorem CoOk.big {n1 n2 k : Nat} {c : Core} {da db : DiskS} (h : CoOk n1 n2 k c da db) (h1 : n1 ≤ 4194304) (h2 : n2 ≤ 4194304) : c.its.length ≤ 4194304 := by
  have hl := h.ln
  have ha := h.wa.jr _ rfl
  have hb := h.wb.jr _ rfl
  unfold Core.cur at hl
  split at hl <;> omega
theorem Core.cpt_max {c : Core} {da db : DiskS} {ls : List (List UInt8)} (hg : 1000000000 ≤ c.gen) : c.cpt da db ls = (240, c, da, db) := by unfold Core.cpt; rw [if_pos (.inr hg)]
theorem Core.cpt_err {c : Core} {da db : DiskS} {ls : List (List UInt8)} (hb : ls.any isBig = false) (hg : c.gen < 1000000000) (he : c.err ≠ 0) : c.cpt da db ls = (c.err, c, da, db) := by unfold Core.cpt; rw [if_neg (by rw [hb]; simp; omega), if_pos he]
theorem Core.cpt_a {ja jb : JrS} {gen : Nat} {its : List (List UInt8)} {da db : DiskS} {ls : List (List UInt8)} (hb : ls.any isBig = false) (hg : gen < 1000000000) : Core.cpt ⟨ja, jb, true, gen, its, 0⟩ da db ls = if (cptS ja da gen ls).1 ≠ 0 then ((cptS ja da gen ls).1, ⟨(cptS ja da gen ls).2.1, jb, true, gen, its, errS (cptS ja da gen ls).1⟩, (cptS ja da gen ls).2.2, db) else (0, ⟨(cptS ja da gen ls).2.1, jb, false, gen + 1, ls, 0⟩, (cptS ja da gen ls).2.2, db) := by
  unfold Core.cpt
  rw [if_neg (by rw [hb]; simp; omega), if_neg (by simp)]
  rfl
theorem Core.cpt_b {ja jb : JrS} {gen : Nat} {its : List (List UInt8)} {da db : DiskS} {ls : List (List UInt8)} (hb : ls.any isBig = false) (hg : gen < 1000000000) : Core.cpt ⟨ja, jb, false, gen, its, 0⟩ da db ls = if (cptS jb db gen ls).1 ≠ 0 then ((cptS jb db gen ls).1, ⟨ja, (cptS jb db gen ls).2.1, false, gen, its, errS (cptS jb db gen ls).1⟩, da, (cptS jb db gen ls).2.2) else (0, ⟨ja, (cptS jb db gen ls).2.1, true, gen + 1, ls, 0⟩, da, (cptS jb db gen ls).2.2) := by
  unfold Core.cpt
  rw [if_neg (by rw [hb]; simp; omega), if_neg (by simp)]
  rfl
theorem sitems_any (sp : Nat) (x0 x1 x2 x3 x4 v x6 : Value) (its : List (List UInt8)) (sr : List Chunk) (hrow : Row 9 v (its.map strV) sr) (hn : its.length ≤ 4194304) : Does Tryz.prog 26 #[.pointer (some ⟨sp, 0, none⟩)] [[(sp, .cells #[x0, x1, x2, x3, x4, v, x6] 150 (0, 0))], sr] (fun r H' => ∃ sv, Row 9 r (its.map strV) sv ∧ H' = [[(sp, .cells #[x0, x1, x2, x3, x4, v, x6] 150 (0, 0))], sr, sv]) := by
 refine spec_enter func26 rfl ntmps26 rfl ?_
 intro u R
 refine Zb [0] ?_
 refine Zq <| Zg <| Za Y <| Z0 <| Zx <| Zq <| Zq <| Zg <| Zm Y ?_
 first | refine op_v (p_eql_nil_nil underlying57 Y Y) ?_ | refine op_v (p_eql_ptr_nil underlying57 Y Y) ?_
 refine Z0 <| Zx ?_
 refine at_if_bool Y (fun hc1 => ?_) (fun hc1 => ?_)
 ·
  cases hc1
 ·
  refine at_skip <| Zx <| Zq <| Zg <| Zm Y <| Zp Y rfl <| Zh 5 underlying150 rfl rfl sizeOf43 Y <| Zl isAgg43 Y ?_
  refine Zc [_] Y call55 Y rfl (clone_spec _ its sr hrow (by omega)) ?_
  rintro _ _ ⟨_, ⟨sv, hv, rfl⟩, rfl⟩
  refine Za Y <| Z0 <| Zx <| at_ret ?_
  refine nx_end1 rfl results26 Y (by exact ⟨sv, hv, rfl⟩)

theorem sgen_any (sp : Nat) (x0 x1 x2 x3 v x6 : Value) (g : Int) : DoesR Tryz.prog 27 #[.pointer (some ⟨sp, 0, none⟩)] [[(sp, .cells #[x0, x1, x2, x3, .int .i64 g, v, x6] 150 (0, 0))]] (.int .i64 g) := by
 refine spec_enter func27 rfl ntmps27 rfl ?_
 intro u R
 refine Zb [0] ?_
 refine Zq <| Zg <| Za Y <| Z0 <| Zx <| Zq <| Zq <| Zg <| Zm Y ?_
 first | refine op_v (p_eql_nil_nil underlying57 Y Y) ?_ | refine op_v (p_eql_ptr_nil underlying57 Y Y) ?_
 refine Z0 <| Zx ?_
 refine at_if_bool Y (fun hc1 => ?_) (fun hc1 => ?_)
 ·
  cases hc1
 ·
  refine at_skip <| Zx <| Zq <| Zg <| Zm Y <| Zp Y rfl <| Zh 4 underlying150 rfl rfl sizeOf3 Y <| Zl isAgg3 Y ?_
  refine Za Y <| Z0 <| Zx <| at_ret ?_
  refine nx_end1 rfl results27 Y (by exact ⟨rfl, rfl⟩)

theorem sroom_any (sp c ca : Nat) (x1 x2 x3 x4 v x6 : Value) (j : JrS) (d : DiskS) (sc sca : List Chunk) (hJ : JrR j c ca sc) (hR : DiskR d ca sca) (hz : j.sz ≤ d.vi.length) : DoesR Tryz.prog 28 #[.pointer (some ⟨sp, 0, none⟩)] [[(sp, .cells #[.pointer (some ⟨c, 0, none⟩), x1, x2, x3, x4, v, x6] 150 (0, 0))], sc, sca] (.int .i64 ((d.vi.length : Int) - (j.sz : Int))) := by
 refine spec_enter func28 rfl ntmps28 rfl ?_
 intro u R
 refine Zb [0] ?_
 refine Zq <| Zg <| Za Y <| Z0 <| Zx <| Zq <| Zq <| Zg <| Zm Y ?_
 first | refine op_v (p_eql_nil_nil underlying57 Y Y) ?_ | refine op_v (p_eql_ptr_nil underlying57 Y Y) ?_
 refine Z0 <| Zx ?_
 refine at_if_bool Y (fun hc1 => ?_) (fun hc1 => ?_)
 ·
  cases hc1
 ·
  refine at_skip <| Zx <| Zq <| Zg <| Zm Y <| Zp Y rfl <| Zh 0 underlying150 rfl rfl sizeOf144 Y <| Zv (p_fieldAddr1 (off := 0) underlying144 rfl rfl sizeOf30 Y) <| Zl isAgg30 Y ?_
  refine Zr [_] Y call17 Y rfl (jr_room j d c ca sc sca hJ hR hz) ?_
  rintro _ _ ⟨rfl, rfl⟩
  refine Za Y <| Z0 <| Zx <| at_ret ?_
  refine nx_end1 rfl results28 Y (by exact ⟨rfl, rfl⟩)

def Core.room (c : Core) (da db : DiskS) : Int := if c.sw then (db.vi.length : Int) - (c.jb.sz : Int) else (da.vi.length : Int) - (c.ja.sz : Int)
theorem core_items (c : Core) (sp a b : Nat) (ss sr sja sjb : List Chunk) (hn : c.its.length ≤ 4194304) (hR : CoR c sp a b ss sr sja sjb) :
    Does Tryz.prog 26 #[.pointer (some ⟨sp, 0, none⟩)] [ss, sr] (fun r H' => ∃ sv, Row 9 r (c.its.map strV) sv ∧ H' = [ss, sr, sv]) := by
  obtain ⟨ja, jb, sw, gen, its, err⟩ := c
  obtain ⟨ap, bp, v, cs, hJa, hJb, hrow, hcs, rfl⟩ := hR
  cases sw with
  | true =>
    have hcs : cs = #[.pointer (some ⟨bp, 0, none⟩), .pointer (some ⟨b, 0, none⟩), .pointer (some ⟨ap, 0, none⟩), .pointer (some ⟨a, 0, none⟩), .int .i64 (gen : Int), v, .int .i64 (err)] := hcs
    subst hcs
    exact sitems_any sp _ _ _ _ _ v _ its sr hrow hn
  | false =>
    have hcs : cs = #[.pointer (some ⟨ap, 0, none⟩), .pointer (some ⟨a, 0, none⟩), .pointer (some ⟨bp, 0, none⟩), .pointer (some ⟨b, 0, none⟩), .int .i64 (gen : Int), v, .int .i64 (err)] := hcs
    subst hcs
    exact sitems_any sp _ _ _ _ _ v _ its sr hrow hn
theorem core_gen (c : Core) (sp a b : Nat) (ss sr sja sjb : List Chunk) (hR : CoR c sp a b ss sr sja sjb) :
    DoesR Tryz.prog 27 #[.pointer (some ⟨sp, 0, none⟩)] [ss] (.int .i64 (c.gen : Int)) := by
  obtain ⟨ja, jb, sw, gen, its, err⟩ := c
  obtain ⟨ap, bp, v, cs, hJa, hJb, hrow, hcs, rfl⟩ := hR
  cases sw with
  | true =>
    have hcs : cs = #[.pointer (some ⟨bp, 0, none⟩), .pointer (some ⟨b, 0, none⟩), .pointer (some ⟨ap, 0, none⟩), .pointer (some ⟨a, 0, none⟩), .int .i64 (gen : Int), v, .int .i64 (err)] := hcs
    subst hcs
    exact sgen_any sp _ _ _ _ v _ gen
  | false =>
    have hcs : cs = #[.pointer (some ⟨ap, 0, none⟩), .pointer (some ⟨a, 0, none⟩), .pointer (some ⟨bp, 0, none⟩), .pointer (some ⟨b, 0, none⟩), .int .i64 (gen : Int), v, .int .i64 (err)] := hcs
    subst hcs
    exact sgen_any sp _ _ _ _ v _ gen
theorem core_room (c : Core) (sp a b n1 n2 k : Nat) (da db : DiskS) (ss sr sja sjb sda sdb : List Chunk) (hC : CoOk n1 n2 k c da db) (hR : CoR c sp a b ss sr sja sjb) (hRa : DiskR da a sda) (hRb : DiskR db b sdb) :
    DoesR Tryz.prog 28 #[.pointer (some ⟨sp, 0, none⟩)] [ss, sja, sjb, sda, sdb] (.int .i64 (c.room da db)) := by
  obtain ⟨ja, jb, sw, gen, its, err⟩ := c
  obtain ⟨ap, bp, v, cs, hJa, hJb, hrow, hcs, rfl⟩ := hR
  cases sw with
  | true =>
    have hcs : cs = #[.pointer (some ⟨bp, 0, none⟩), .pointer (some ⟨b, 0, none⟩), .pointer (some ⟨ap, 0, none⟩), .pointer (some ⟨a, 0, none⟩), .int .i64 (gen : Int), v, .int .i64 (err)] := hcs
    subst hcs
    refine does_perm (does_frame (sroom_any sp bp b (.pointer (some ⟨b, 0, none⟩)) (.pointer (some ⟨ap, 0, none⟩)) (.pointer (some ⟨a, 0, none⟩)) (.int .i64 (gen : Int)) v (.int .i64 err) jb db sjb sdb hJb hRb (by have := hC.wb.len; have := (hC.wb.jr _ rfl).1; simp only at *; omega)) [sja, sda] rfl) ?_ ?_
    · (refine perm_cnt fun p => ?_; simp only [List.flatten_cons, List.flatten_nil, List.flatten_append, List.countP_append, List.countP_nil, List.append_nil]; omega)
    · rintro r _ ⟨H2, ⟨rfl, rfl⟩, rfl⟩
      refine ⟨_, ⟨rfl, rfl⟩, ?_⟩
      (refine perm_cnt fun p => ?_; simp only [List.flatten_cons, List.flatten_nil, List.flatten_append, List.countP_append, List.countP_nil, List.append_nil]; omega)
  | false =>
    have hcs : cs = #[.pointer (some ⟨ap, 0, none⟩), .pointer (some ⟨a, 0, none⟩), .pointer (some ⟨bp, 0, none⟩), .pointer (some ⟨b, 0, none⟩), .int .i64 (gen : Int), v, .int .i64 (err)] := hcs
    subst hcs
    refine does_perm (does_frame (sroom_any sp ap a (.pointer (some ⟨a, 0, none⟩)) (.pointer (some ⟨bp, 0, none⟩)) (.pointer (some ⟨b, 0, none⟩)) (.int .i64 (gen : Int)) v (.int .i64 err) ja da sja sda hJa hRa (by have := hC.wa.len; have := (hC.wa.jr _ rfl).1; simp only at *; omega)) [sjb, sdb] rfl) ?_ ?_
    · (refine perm_cnt fun p => ?_; simp only [List.flatten_cons, List.flatten_nil, List.flatten_append, List.countP_append, List.countP_nil, List.append_nil]; omega)
    · rintro r _ ⟨H2, ⟨rfl, rfl⟩, rfl⟩
      refine ⟨_, ⟨rfl, rfl⟩, ?_⟩
      (refine perm_cnt fun p => ?_; simp only [List.flatten_cons, List.flatten_nil, List.flatten_append, List.countP_append, List.countP_nil, List.append_nil]; omega)

end Go.Proofs.YthbadolcncojbaaGreatDoor
