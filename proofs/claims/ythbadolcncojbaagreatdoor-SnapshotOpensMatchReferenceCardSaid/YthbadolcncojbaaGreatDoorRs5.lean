/- The reference of layer 24: a store over plain states. -/
import Derived.Test.YthbadolcncojbaaGreatDoorRs4
namespace Go.Proofs.YthbadolcncojbaaGreatDoor
open Go Go.RowKit Gw
set_option linter.unusedVariables false
set_option maxRecDepth 100000
attribute [local irreducible] Gw.At Gw.Nx Gw.Ops
theorem koC_true (ap bp : Value) (gen : Nat) (v : Value) (err : Int) : #[ap, bp, .int .i64 ((swI true : Nat) : Int), .int .i64 (gen : Int), v, .int .i64 err] = koC true bp ap gen v err := rfl
theorem koC_false (ap bp : Value) (gen : Nat) (v : Value) (err : Int) : #[ap, bp, .int .i64 ((swI false : Nat) : Int), .int .i64 (gen : Int), v, .int .i64 err] = koC false ap bp gen v err := rfl
theorem kt_cpt (c : Core) (sp a b n1 n2 k : Nat) (da db : DiskS) (ss sr ska skb sda sdb sl : List Chunk) (vl : Value) (ls : List (List UInt8)) (hC : CoOk n1 n2 k c da db) (h0 : 1 ≤ n1) (h1 : n1 ≤ 4194304) (h00 : 1 ≤ n2) (h2 : n2 ≤ 4194304) (hk : k ≤ 900000) (hR : KtR c sp a b ss sr ska skb) (hRa : RdR da a sda) (hRb : RdR db b sdb) (hl : Row 9 vl (ls.map strV) sl) (hn : ls.length ≤ 900000) (hb : ls.any isBig = false) :
    Does Tryz.prog 65 #[.pointer (some ⟨sp, 0, none⟩), vl] [ss, sr, ska, skb, sda, sdb, sl] (fun r H' => ∃ ss' sr' ska' skb' sda' sdb', r = .int .i64 (c.cpt da db ls).1 ∧ KtR (c.cpt da db ls).2.1 sp a b ss' sr' ska' skb' ∧ RdR (c.cpt da db ls).2.2.1 a sda' ∧ RdR (c.cpt da db ls).2.2.2 b sdb' ∧ H' = [ss', sr', ska', skb', sda', sdb', sl]) := by
  have same : ∀ e : Int, c.cpt da db ls = (e, c, da, db) → (∀ sw p q v, DoesR Tryz.prog 65 #[.pointer (some ⟨sp, 0, none⟩), vl] [[(sp, .cells (koC sw p q c.gen v c.err) 68 (0, 0))], sl] (.int .i64 e)) → Does Tryz.prog 65 #[.pointer (some ⟨sp, 0, none⟩), vl] [ss, sr, ska, skb, sda, sdb, sl] (fun r H' => ∃ ss' sr' ska' skb' sda' sdb', r = .int .i64 (c.cpt da db ls).1 ∧ KtR (c.cpt da db ls).2.1 sp a b ss' sr' ska' skb' ∧ RdR (c.cpt da db ls).2.2.1 a sda' ∧ RdR (c.cpt da db ls).2.2.2 b sdb' ∧ H' = [ss', sr', ska', skb', sda', sdb', sl]) := by
    intro e he hs
    rw [he]
    have hR2 := hR
    obtain ⟨ap, bp, v, cs, hKa, hKb, hrow, hcs, hss⟩ := hR2
    have h9 : ∃ sw p q, cs = koC sw p q c.gen v c.err := by
      cases hsw : c.sw with
      | true => rw [hsw, koC_true] at hcs; exact ⟨true, _, _, hcs⟩
      | false => rw [hsw, koC_false] at hcs; exact ⟨false, _, _, hcs⟩
    obtain ⟨sw, p, q, h9⟩ := h9
    rw [h9] at hss
    have h8 := hs sw p q v
    rw [← hss] at h8
    refine does_perm (does_frame h8 [sr, ska, skb, sda, sdb] rfl) ?_ ?_
    · (refine perm_cnt fun p => ?_; simp only [List.flatten_cons, List.flatten_nil, List.flatten_append, List.countP_append, List.countP_nil, List.append_nil]; omega)
    · rintro r _ ⟨H2, ⟨rfl, rfl⟩, rfl⟩
      refine ⟨_, ⟨ss, sr, ska, skb, sda, sdb, rfl, hR, hRa, hRb, rfl⟩, ?_⟩
      (refine perm_cnt fun p => ?_; simp only [List.flatten_cons, List.flatten_nil, List.flatten_append, List.countP_append, List.countP_nil, List.append_nil]; omega)
  rcases Nat.lt_or_ge c.gen 1000000000 with hg | hg
  case inr => exact same 240 (Core.cpt_max hg) (fun sw p q v => rscpt_max sp c.gen sw p q v vl c.err ls sl hl (by omega) hb hg)
  by_cases he : c.err ≠ 0
  · exact same c.err (Core.cpt_err hb hg he) (fun sw p q v => rscpt_err sp c.gen sw p q v vl c.err ls sl hl (by omega) hb hg he)
  clear same
  obtain ⟨ja, jb, sw, gen, its, err⟩ := c
  obtain ⟨ap, bp, v, cs, hKa, hKb, hrow, hcs, rfl⟩ := hR
  simp only at hKa hKb hrow hcs
  have he : err = 0 := Classical.not_not.1 he
  subst he
  have hg : gen < 1000000000 := hg
  cases sw with
  | true =>
    rw [koC_true] at hcs
    subst hcs
    rw [Core.cpt_a hb hg]
    refine does_perm (does_frame (rscpt_on sp ap a gen n1 k true (.pointer (some ⟨bp, 0, none⟩)) v ls ska sda ja da hb hg hC.wa h0 h1 hk hKa hRa its sr sl vl hrow hl hn) [skb, sdb] rfl) ?_ ?_
    · (refine perm_cnt fun p => ?_; simp only [List.flatten_cons, List.flatten_nil, List.flatten_append, List.countP_append, List.countP_nil, List.append_nil]; omega)
    · rintro r _ ⟨H2, ⟨np, sk', sd', hj, hd, ⟨h5, rfl, e2, rfl, rfl⟩ | ⟨h5, rfl, v', sr', hr, rfl⟩⟩, rfl⟩
      · rw [if_pos h5]
        refine ⟨_, ⟨[(sp, .cells (koC true (.pointer (some ⟨bp, 0, none⟩)) (.pointer (some ⟨np, 0, none⟩)) gen v (errS (cptS ja da gen ls).1)) 68 (0, 0))], sr, sk', skb, sd', sdb, rfl, ⟨np, bp, v, _, hj, hKb, hrow, rfl, rfl⟩, hd, hRb, rfl⟩, ?_⟩
        (refine perm_cnt fun p => ?_; simp only [List.flatten_cons, List.flatten_nil, List.flatten_append, List.countP_append, List.countP_nil, List.append_nil]; omega)
      · rw [if_neg (by rw [h5]; simp)]
        refine ⟨_, ⟨[(sp, .cells (koC (!true) (.pointer (some ⟨np, 0, none⟩)) (.pointer (some ⟨bp, 0, none⟩)) (gen + 1) v' 0) 68 (0, 0))], sr', sk', skb, sd', sdb, rfl, ⟨np, bp, v', _, hj, hKb, hr, rfl, rfl⟩, hd, hRb, rfl⟩, ?_⟩
        (refine perm_cnt fun p => ?_; simp only [List.flatten_cons, List.flatten_nil, List.flatten_append, List.countP_append, List.countP_nil, List.append_nil]; omega)
  | false =>
    rw [koC_false] at hcs
    subst hcs
    rw [Core.cpt_b hb hg]
    refine does_perm (does_frame (rscpt_on sp bp b gen n2 k false (.pointer (some ⟨ap, 0, none⟩)) v ls skb sdb jb db hb hg hC.wb h00 h2 hk hKb hRb its sr sl vl hrow hl hn) [ska, sda] rfl) ?_ ?_
    · (refine perm_cnt fun p => ?_; simp only [List.flatten_cons, List.flatten_nil, List.flatten_append, List.countP_append, List.countP_nil, List.append_nil]; omega)
    · rintro r _ ⟨H2, ⟨np, sk', sd', hj, hd, ⟨h5, rfl, e2, rfl, rfl⟩ | ⟨h5, rfl, v', sr', hr, rfl⟩⟩, rfl⟩
      · rw [if_pos h5]
        refine ⟨_, ⟨[(sp, .cells (koC false (.pointer (some ⟨ap, 0, none⟩)) (.pointer (some ⟨np, 0, none⟩)) gen v (errS (cptS jb db gen ls).1)) 68 (0, 0))], sr, ska, sk', sda, sd', rfl, ⟨ap, np, v, _, hKa, hj, hrow, rfl, rfl⟩, hRa, hd, rfl⟩, ?_⟩
        (refine perm_cnt fun p => ?_; simp only [List.flatten_cons, List.flatten_nil, List.flatten_append, List.countP_append, List.countP_nil, List.append_nil]; omega)
      · rw [if_neg (by rw [h5]; simp)]
        refine ⟨_, ⟨[(sp, .cells (koC (!false) (.pointer (some ⟨np, 0, none⟩)) (.pointer (some ⟨ap, 0, none⟩)) (gen + 1) v' 0) 68 (0, 0))], sr', ska, sk', sda, sd', rfl, ⟨ap, np, v', _, hKa, hj, hr, rfl, rfl⟩, hRa, hd, rfl⟩, ?_⟩
        (refine perm_cnt fun p => ?_; simp only [List.flatten_cons, List.flatten_nil, List.flatten_append, List.countP_append, List.countP_nil, List.append_nil]; omega)
theorem kt_room (c : Core) (sp a b n1 n2 k : Nat) (da db : DiskS) (ss sr ska skb sda sdb : List Chunk) (hC : CoOk n1 n2 k c da db) (h1 : n1 ≤ 4194304) (h2 : n2 ≤ 4194304) (hR : KtR c sp a b ss sr ska skb) (hRa : RdR da a sda) (hRb : RdR db b sdb) :
    DoesR Tryz.prog 29 #[.pointer (some ⟨sp, 0, none⟩)] [ss, ska, skb, sda, sdb] (.int .i64 (c.room da db)) := by
  obtain ⟨ja, jb, sw, gen, its, err⟩ := c
  obtain ⟨ap, bp, v, cs, hKa, hKb, hrow, hcs, rfl⟩ := hR
  simp only at hKa hKb hrow hcs
  cases sw with
  | true =>
    rw [koC_true] at hcs
    subst hcs
    refine does_perm (does_frame (rsroom_spec sp bp b gen true (.pointer (some ⟨ap, 0, none⟩)) v err jb db skb sdb hKb hRb (by have := (hC.wb.jr _ rfl).1; simp only at *; omega)) [ska, sda] rfl) ?_ ?_
    · (refine perm_cnt fun p => ?_; simp only [List.flatten_cons, List.flatten_nil, List.flatten_append, List.countP_append, List.countP_nil, List.append_nil]; omega)
    · rintro r _ ⟨H2, ⟨rfl, rfl⟩, rfl⟩
      refine ⟨_, ⟨rfl, rfl⟩, ?_⟩
      (refine perm_cnt fun p => ?_; simp only [List.flatten_cons, List.flatten_nil, List.flatten_append, List.countP_append, List.countP_nil, List.append_nil]; omega)
  | false =>
    rw [koC_false] at hcs
    subst hcs
    refine does_perm (does_frame (rsroom_spec sp ap a gen false (.pointer (some ⟨bp, 0, none⟩)) v err ja da ska sda hKa hRa (by have := (hC.wa.jr _ rfl).1; simp only at *; omega)) [skb, sdb] rfl) ?_ ?_
    · (refine perm_cnt fun p => ?_; simp only [List.flatten_cons, List.flatten_nil, List.flatten_append, List.countP_append, List.countP_nil, List.append_nil]; omega)
    · rintro r _ ⟨H2, ⟨rfl, rfl⟩, rfl⟩
      refine ⟨_, ⟨rfl, rfl⟩, ?_⟩
      (refine perm_cnt fun p => ?_; simp only [List.flatten_cons, List.flatten_nil, List.flatten_append, List.countP_append, List.countP_nil, List.append_nil]; omega)
theorem openS_code (da db : DiskS) : (∃ c, (openS da db).2.1 = some c ∧ (openS da db).1 = 0) ∨ ((openS da db).2.1 = none ∧ (openS da db).1 ≠ 0) := by
  have ca := openJ_code da
  have cb := openJ_code db
  unfold openS
  cases hx : da.openJ with
  | mk e y =>
    obtain ⟨jo, da'⟩ := y
    rw [hx] at ca
    cases jo with
    | none =>
      rcases ca with ⟨j, h, _⟩ | ⟨_, h⟩
      · cases h
      · exact .inr ⟨rfl, h⟩
    | some ja =>
      simp only
      cases hy : db.openJ with
      | mk f z =>
        obtain ⟨ko, db'⟩ := z
        rw [hy] at cb
        cases ko with
        | none =>
          rcases cb with ⟨j, h, _⟩ | ⟨_, h⟩
          · cases h
          · exact .inr ⟨rfl, h⟩
        | some jb =>
          simp only
          split
          · split
            · exact .inr ⟨rfl, by show (240 : Int) ≠ 0; decide⟩
            split
            · exact .inl ⟨_, rfl, rfl⟩
            split
            · split
              · rename_i h; exact .inr ⟨rfl, h⟩
              · exact .inl ⟨_, rfl, rfl⟩
            · exact .inl ⟨_, rfl, rfl⟩
          · exact .inr ⟨rfl, by show (240 : Int) ≠ 0; decide⟩

end Go.Proofs.YthbadolcncojbaaGreatDoor
