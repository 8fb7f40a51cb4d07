/- Walking by chunks: rows and lists of six numbers compared. No function of the program is named. -/
/- The rows of a range, of a table: one list. -/
/- Roots of lists, in plain words. -/
import Derived.Test.YtjeepldonhgohaaGreatDoorEz
import Derived.Test.YtjeepldonhgohaaGreatDoorEx14
import Derived.Test.YtjeepldonhgohaaGreatDoorKs12
import Derived.Test.YtjeepldonhgohaaGreatDoorWi2

namespace Gw
open Go Go.RowKit
section
variable {P : Program} {u : World} {env : Env} {H R : Hp} {d : Option Nat} {ty : TypeId} {pos : String} {af : Array Edge} {g : Option (Nat × Bool)}
/-- Two rows are the same. -/
def RowEq (t1 t2 k1 k2 : Int) (x y : V3) : Prop := t1 = t2 ∧ k1 = k2 ∧ x = y
instance (t1 t2 k1 k2 : Int) (x y : V3) : Decidable (RowEq t1 t2 k1 k2 x y) := inferInstanceAs (Decidable (_ ∧ _ ∧ _))
theorem eq_row {t e ta : TypeId} {f0 f1 f2 : Field} (w : World) (n : Nat) (t1 t2 k1 k2 : Int) (x y : V3) (hu : P.underlying t = some (.struct #[f0, f1, f2])) (hst : P.stoodInHeld t = false)
    (h0 : f0.name ≠ "_" ∧ f0.type = e ∧ f0.offset = 0) (h1 : f1.name ≠ "_" ∧ f1.type = e ∧ f1.offset = 1) (h2 : f2.name ≠ "_" ∧ f2.type = ta ∧ f2.offset = 2)
    (he : P.underlying e = some (.int .i64)) (hta : P.underlying ta = some (.array 3 e)) (ha : ∀ w : World, (isAgg e).run P w = .ok false w) (hs : ∀ w : World, (Go.sizeOf e).run P w = .ok 1 w)
    (haa : ∀ w : World, (isAgg ta).run P w = .ok true w) (hsa : ∀ w : World, (Go.sizeOf ta).run P w = .ok 3 w) :
    (Op.equalIn (n + 3) t (.agg #[.int .i64 t1, .int .i64 k1, .int .i64 x.a, .int .i64 x.b, .int .i64 x.c]) (.agg #[.int .i64 t2, .int .i64 k2, .int .i64 y.a, .int .i64 y.b, .int .i64 y.c])).run P w = .ok (decide (RowEq t1 t2 k1 k2 x y)) w := by
  obtain ⟨n0, e0, o0⟩ := h0
  obtain ⟨n1, e1, o1⟩ := h1
  obtain ⟨n2, e2, o2⟩ := h2
  have ei : ∀ (m k : Int) (w : World), (Op.equalIn (n + 2) e (.int .i64 m) (.int .i64 k)).run P w = .ok (decide (m = k)) w := fun m k w => eq_int1 (n + 1) w he m k
  have ea : ∀ (w : World), (Op.equalIn (n + 2) ta (.agg #[.int .i64 x.a, .int .i64 x.b, .int .i64 x.c]) (.agg #[.int .i64 y.a, .int .i64 y.b, .int .i64 y.c])).run P w = .ok (decide (x = y)) w := fun w => eq_arr3 w n x y hta he ha hs
  have p0 : ∀ (v0 v1 v2 v3 v4 : Value) (w : World), (part e #[v0, v1, v2, v3, v4] 0).run P w = .ok v0 w := fun _ _ _ _ _ w => part_int1 w (ha w) _ _ rfl
  have p1 : ∀ (v0 v1 v2 v3 v4 : Value) (w : World), (part e #[v0, v1, v2, v3, v4] 1).run P w = .ok v1 w := fun _ _ _ _ _ w => part_int1 w (ha w) _ _ rfl
  have p2 : ∀ (v0 v1 v2 v3 v4 : Value) (w : World), (part ta #[v0, v1, v2, v3, v4] 2).run P w = .ok (.agg #[v2, v3, v4]) w := fun _ _ _ _ _ w => by simp [part, haa, hsa]
  rw [show n + 3 = (n + 2) + 1 from rfl, Op.equalIn]
  generalize n + 2 = m at *
  simp only [Sem.run_bind, run_underlying hu, Result.andThen_ok, run_program, hst, Bool.false_eq_true, if_false]
  rw [← Array.forIn_toList]
  simp only [List.forIn_cons, List.forIn_nil, n0, n1, n2, e0, e1, e2, o0, o1, o2, ne_eq, not_false_eq_true, if_true]
  simp only [Sem.run_bind, p0, p1, p2, ei, ea, Result.andThen_ok]
  have hd : decide (RowEq t1 t2 k1 k2 x y) = (decide (t1 = t2) && (decide (k1 = k2) && decide (x = y))) := by
    by_cases h : RowEq t1 t2 k1 k2 x y
    · rw [decide_eq_true h, decide_eq_true h.1, decide_eq_true h.2.1, decide_eq_true h.2.2]; rfl
    · rw [decide_eq_false h]
      by_cases c1 : t1 = t2 <;> by_cases c2 : k1 = k2 <;> by_cases c3 : x = y <;> simp [c1, c2, c3]
      exact h ⟨c1, c2, c3⟩
  rw [hd]
  generalize decide (x = y) = b3 at *
  by_cases c1 : t1 = t2 <;> by_cases c2 : k1 = k2 <;> cases b3 <;> simp [c1, c2, p0, p1, p2, ei, ea, n1, n2]
section
variable {t yt e ta : TypeId} {f0 f1 f2 : Field} {x y : Operand} {t1 t2 k1 k2 : Int} {p q : V3}
theorem p_neq_row (hg : P.eqGuardType P.depth t = false) (hu : P.underlying t = some (.struct #[f0, f1, f2])) (hst : P.stoodInHeld t = false)
    (h0 : f0.name ≠ "_" ∧ f0.type = e ∧ f0.offset = 0) (h1 : f1.name ≠ "_" ∧ f1.type = e ∧ f1.offset = 1) (h2 : f2.name ≠ "_" ∧ f2.type = ta ∧ f2.offset = 2)
    (he : P.underlying e = some (.int .i64)) (hta : P.underlying ta = some (.array 3 e)) (ha : ∀ w : World, (isAgg e).run P w = .ok false w) (hs : ∀ w : World, (Go.sizeOf e).run P w = .ok 1 w)
    (haa : ∀ w : World, (isAgg ta).run P w = .ok true w) (hsa : ∀ w : World, (Go.sizeOf ta).run P w = .ok 3 w)
    (hx : ∀ a, ev a env x = .agg #[.int .i64 t1, .int .i64 k1, .int .i64 p.a, .int .i64 p.b, .int .i64 p.c]) (hy : ∀ a, ev a env y = .agg #[.int .i64 t2, .int .i64 k2, .int .i64 q.a, .int .i64 q.b, .int .i64 q.c]) : OpP P ⟨d, .binOp .neq t x y yt, ty, pos, af, g⟩ env [] (.bool (decide (¬ RowEq t1 t2 k1 k2 p q))) := fun a w _ => by
  simp [x_binOp, hx a, hy a, go_sem, run_eqGuard_agg w _ t _ _ _ _ hg, bin_neq_agg, Op.equal, Op.maxDepth, eq_row w 9997 t1 t2 k1 k2 p q hu hst h0 h1 h2 he hta ha hs haa hsa]
end
/-- Six numbers compared. -/
theorem eq_arr6 {t e : TypeId} (w : World) (n : Nat) (x0 x1 x2 x3 x4 x5 y0 y1 y2 y3 y4 y5 : Int) (hu : P.underlying t = some (.array 6 e)) (he : P.underlying e = some (.int .i64)) (ha : ∀ w : World, (isAgg e).run P w = .ok false w) (hs : ∀ w : World, (Go.sizeOf e).run P w = .ok 1 w) :
    (Op.equalIn (n + 2) t (.agg #[.int .i64 x0, .int .i64 x1, .int .i64 x2, .int .i64 x3, .int .i64 x4, .int .i64 x5]) (.agg #[.int .i64 y0, .int .i64 y1, .int .i64 y2, .int .i64 y3, .int .i64 y4, .int .i64 y5])).run P w = .ok (decide (x0 = y0 ∧ x1 = y1 ∧ x2 = y2 ∧ x3 = y3 ∧ x4 = y4 ∧ x5 = y5)) w := by
  have ei : ∀ (m k : Int) (w : World), (Op.equalIn (n + 1) e (.int .i64 m) (.int .i64 k)).run P w = .ok (decide (m = k)) w := fun m k w => eq_int1 n w he m k
  have pt : ∀ (vs : Array Value) (j : Nat) (v : Value) (w : World), vs[j]? = some v → (part e vs j).run P w = .ok v w := fun vs j v w h => part_int1 w (ha w) _ _ h
  have p0 : ∀ (v0 v1 v2 v3 v4 v5 : Value) (w : World), (part e #[v0, v1, v2, v3, v4, v5] 0).run P w = .ok v0 w := fun _ _ _ _ _ _ w => pt _ _ _ w rfl
  have p1 : ∀ (v0 v1 v2 v3 v4 v5 : Value) (w : World), (part e #[v0, v1, v2, v3, v4, v5] 1).run P w = .ok v1 w := fun _ _ _ _ _ _ w => pt _ _ _ w rfl
  have p2 : ∀ (v0 v1 v2 v3 v4 v5 : Value) (w : World), (part e #[v0, v1, v2, v3, v4, v5] 2).run P w = .ok v2 w := fun _ _ _ _ _ _ w => pt _ _ _ w rfl
  have p3 : ∀ (v0 v1 v2 v3 v4 v5 : Value) (w : World), (part e #[v0, v1, v2, v3, v4, v5] 3).run P w = .ok v3 w := fun _ _ _ _ _ _ w => pt _ _ _ w rfl
  have p4 : ∀ (v0 v1 v2 v3 v4 v5 : Value) (w : World), (part e #[v0, v1, v2, v3, v4, v5] 4).run P w = .ok v4 w := fun _ _ _ _ _ _ w => pt _ _ _ w rfl
  have p5 : ∀ (v0 v1 v2 v3 v4 v5 : Value) (w : World), (part e #[v0, v1, v2, v3, v4, v5] 5).run P w = .ok v5 w := fun _ _ _ _ _ _ w => pt _ _ _ w rfl
  rw [show n + 2 = (n + 1) + 1 from rfl, Op.equalIn]
  generalize n + 1 = m at *
  simp only [Sem.run_bind, run_underlying hu, Result.andThen_ok, hs]
  simp only [Std.Legacy.Range.forIn_eq_forIn_range', Std.Legacy.Range.size, Nat.sub_zero, Nat.add_sub_cancel, Nat.div_one, List.range'_succ, List.range'_zero, List.forIn_cons, List.forIn_nil]
  simp only [Sem.run_bind, p0, p1, p2, p3, p4, p5, ei, Result.andThen_ok, Nat.zero_add, Nat.mul_one, Nat.one_mul, Nat.zero_mul]
  by_cases h0 : x0 = y0
  · by_cases h1 : x1 = y1
    · by_cases h2 : x2 = y2
      · by_cases h3 : x3 = y3
        · by_cases h4 : x4 = y4
          · by_cases h5 : x5 = y5 <;> simp [h0, h1, h2, h3, h4, h5, p0, p1, p2, p3, p4, p5, ei]
          · simp [h0, h1, h2, h3, h4, p0, p1, p2, p3, p4, p5, ei]
        · simp [h0, h1, h2, h3, p0, p1, p2, p3, p4, p5, ei]
      · simp [h0, h1, h2, p0, p1, p2, p3, p4, p5, ei]
    · simp [h0, h1, p0, p1, p2, p3, p4, p5, ei]
  · simp [h0, p0, p1, p2, p3, p4, p5, ei]
theorem p_eql_arr6 {t yt e : TypeId} {x y : Operand} {x0 x1 x2 x3 x4 x5 y0 y1 y2 y3 y4 y5 : Int} (hg : P.eqGuardType P.depth t = false) (hu : P.underlying t = some (.array 6 e)) (he : P.underlying e = some (.int .i64)) (ha : ∀ w : World, (isAgg e).run P w = .ok false w) (hs : ∀ w : World, (Go.sizeOf e).run P w = .ok 1 w)
    (hx : ∀ a, ev a env x = .agg #[.int .i64 x0, .int .i64 x1, .int .i64 x2, .int .i64 x3, .int .i64 x4, .int .i64 x5]) (hy : ∀ a, ev a env y = .agg #[.int .i64 y0, .int .i64 y1, .int .i64 y2, .int .i64 y3, .int .i64 y4, .int .i64 y5]) : OpP P ⟨d, .binOp .eql t x y yt, ty, pos, af, g⟩ env [] (.bool (decide (x0 = y0 ∧ x1 = y1 ∧ x2 = y2 ∧ x3 = y3 ∧ x4 = y4 ∧ x5 = y5))) := fun a w _ => by
  simp [x_binOp, hx a, hy a, go_sem, run_eqGuard_agg w _ t _ _ _ _ hg, bin_eql_agg, Op.equal, Op.maxDepth, eq_arr6 w 9998 x0 x1 x2 x3 x4 x5 y0 y1 y2 y3 y4 y5 hu he ha hs]
end
/-- Segments brought together or parted, ahead of a call and behind it. -/
theorem does_re {P : Program} {f : FuncId} {args : Array Value} {H H1 : Hp} {Q Q1 : Value → Hp → Prop} (h : Does P f args H Q) (hf : H1.flatten = H.flatten) (hq : ∀ v H', Q v H' → ∃ H2, Q1 v H2 ∧ H2.flatten.Perm H'.flatten) : Does P f args H1 Q1 := fun u R w hs =>
  Calls.mono (h u R w (hs.sub ⟨[], by simp [hf]⟩)) fun e w' he => by
    rcases he with ⟨v, H', rfl, h1, h2⟩ | ⟨ch, H', rfl, h1, h2⟩
    · obtain ⟨H2, h3, h4⟩ := hq v H' h1
      refine .inl ⟨v, H2, rfl, h3, h2.perm ?_⟩
      rw [List.flatten_append, List.flatten_append]
      exact h4.symm.append_right _
    · exact h1.elim
end Gw


namespace Go.Proofs.YtjeepldonhgohaaGreatDoor
open Go.Proofs.Tryz
open Go Go.RowKit Gw
set_option linter.unusedVariables false
set_option linter.unusedSimpArgs false
set_option maxRecDepth 100000
attribute [local irreducible] Gw.At Gw.Nx Gw.Ops
theorem insV_form (c : Nat) (out : List RowM) (x : RowM) : ∃ A B, out = A ++ B ∧ insV c out x = A ++ [x] ++ B ∧ (∀ r ∈ B, valN x c < valN r c) ∧ (A = [] ∨ ∃ A' r, A = A' ++ [r] ∧ valN r c ≤ valN x c) := by
  let q : RowM → Bool := fun r => decide (valN x c < valN r c)
  have e : out = (out.reverse.dropWhile q).reverse ++ (out.reverse.takeWhile q).reverse := by
    rw [← List.reverse_append, List.takeWhile_append_dropWhile, List.reverse_reverse]
  have hp : placeV c out (valN x c) = (out.reverse.dropWhile q).reverse.length := by
    rw [List.length_reverse]; rfl
  refine ⟨(out.reverse.dropWhile q).reverse, (out.reverse.takeWhile q).reverse, e, ?_, ?_, ?_⟩
  · unfold insV
    rw [hp]
    generalize (out.reverse.dropWhile q).reverse = A at *
    generalize (out.reverse.takeWhile q).reverse = B at *
    subst e
    rw [List.take_left', List.drop_left']
    all_goals rfl
  · intro r hr
    rw [List.mem_reverse] at hr
    have := List.all_takeWhile (p := q) (l := out.reverse)
    rw [List.all_eq_true] at this
    simpa [q] using this r hr
  · cases h : out.reverse.dropWhile q with
    | nil => left; rfl
    | cons r l =>
      right
      refine ⟨l.reverse, r, by simp, ?_⟩
      have := List.head?_dropWhile_not q out.reverse
      rw [h] at this
      simpa [q] using this
theorem insV_perm (c : Nat) (out : List RowM) (x : RowM) : (insV c out x).Perm (x :: out) := by
  obtain ⟨A, B, e1, e2, _, _⟩ := insV_form c out x
  rw [e2, e1, List.append_assoc]
  exact List.perm_middle
theorem foldV_perm (c : Nat) : ∀ (l out : List RowM), (l.foldl (insV c) out).Perm (out ++ l)
  | [], out => by simp
  | x :: l, out => by
    rw [List.foldl_cons]
    refine (foldV_perm c l _).trans ?_
    refine ((insV_perm c out x).append_right l).trans ?_
    exact List.perm_middle.symm
theorem insV_sorted {c : Nat} {out : List RowM} {x : RowM} (h : out.Pairwise (leV c)) (hk : ∀ r ∈ out, r.k < x.k) : (insV c out x).Pairwise (leV c) := by
  obtain ⟨A, B, e1, e2, hB, hA⟩ := insV_form c out x
  rw [e2]
  rw [e1] at h hk
  rw [List.pairwise_append] at h
  obtain ⟨h1, h2, h3⟩ := h
  have hA2 : ∀ r ∈ A, valN r c ≤ valN x c := by
    rcases hA with rfl | ⟨A', r0, rfl, h0⟩
    · intro r hr; simp at hr
    · intro r hr
      rcases List.mem_append.1 hr with hr' | hr'
      · rw [List.pairwise_append] at h1
        have := h1.2.2 r hr' r0 (by simp)
        unfold leV at this
        omega
      · rw [List.mem_singleton] at hr'
        subst hr'; exact h0
  rw [List.append_assoc, List.pairwise_append]
  refine ⟨h1, ?_, ?_⟩
  · rw [List.singleton_append, List.pairwise_cons]
    exact ⟨fun r hr => .inl (hB r hr), h2⟩
  · intro a ha b hb
    rw [List.singleton_append, List.mem_cons] at hb
    rcases hb with rfl | hb
    · have h4 := hA2 a ha
      have h5 := hk a (List.mem_append_left _ ha)
      unfold leV
      omega
    · exact h3 a ha b hb
theorem foldV_sorted (c : Nat) : ∀ (l out : List RowM), out.Pairwise (leV c) → l.Pairwise (fun a b => a.k < b.k) → (∀ r ∈ out, ∀ x ∈ l, r.k < x.k) → (l.foldl (insV c) out).Pairwise (leV c)
  | [], out, h, _, _ => h
  | x :: l, out, h, h2, h3 => by
    rw [List.foldl_cons]
    rw [List.pairwise_cons] at h2
    refine foldV_sorted c l _ (insV_sorted h fun r hr => h3 r hr x (by simp)) h2.2 ?_
    intro r hr y hy
    have := (insV_perm c out x).mem_iff.1 hr
    rcases List.mem_cons.1 this with rfl | hm
    · exact h2.1 y hy
    · exact h3 r hm y (by simp [hy])
/-- Rows of one table ascend by their keys. -/
theorem one_table {rs : List RowM} {t : Int} {f : RowM → Bool} (hs : SortedR rs) (hf : ∀ r, f r = true → r.t = t) : (rs.filter f).Pairwise (fun a b => a.k < b.k) := by
  have h1 : (rs.filter f).Pairwise (fun a b => a.lt2 b.t b.k) := hs.filter f
  refine h1.imp_of_mem ?_
  intro a b ha hb hab
  have h2 := hf a (List.mem_filter.1 ha).2
  have h3 := hf b (List.mem_filter.1 hb).2
  unfold RowM.lt2 at hab
  omega
theorem keys_inj {l : List RowM} (h : l.Pairwise (fun a b => a.k < b.k)) : ∀ a ∈ l, ∀ b ∈ l, a.k = b.k → a = b := by
  induction l with
  | nil => intro a ha; simp at ha
  | cons x l ih =>
    rw [List.pairwise_cons] at h
    intro a ha b hb e
    rcases List.mem_cons.1 ha with ea | ha' <;> rcases List.mem_cons.1 hb with eb | hb'
    · rw [ea, eb]
    · have := h.1 b hb'; rw [ea] at e; omega
    · have := h.1 a ha'; rw [eb] at e; omega
    · exact ih h.2 a ha' b hb' e
theorem inR_t {t : Int} {c : Nat} {lo hi : Int} {r : RowM} (h : inR t c lo hi r = true) : r.t = t := (of_decide_eq_true h).1
theorem rangeL_perm (rs : List RowM) (t : Int) (c : Nat) (lo hi : Int) : (rangeL rs t c lo hi).Perm (rs.filter (inR t c lo hi)) := by
  have := foldV_perm c (rs.filter (inR t c lo hi)) []
  rw [List.nil_append] at this
  exact this
theorem rangeL_sorted {rs : List RowM} (hs : SortedR rs) (t : Int) (c : Nat) (lo hi : Int) : (rangeL rs t c lo hi).Pairwise (leV c) :=
  foldV_sorted c _ [] .nil (one_table hs fun r h => inR_t h) (by intro r hr; simp at hr)
/-- What is sorted by value and key, and holds the same rows: the same list. -/
theorem sorted_one {rs : List RowM} (hs : SortedR rs) {t : Int} {f : RowM → Bool} (hf : ∀ r, f r = true → r.t = t) {c : Nat} {a b : List RowM} (ha : a.Perm (rs.filter f)) (hb : b.Perm (rs.filter f)) (h1 : a.Pairwise (leV c)) (h2 : b.Pairwise (leV c)) : a = b := by
  have hk := one_table hs hf
  refine (ha.trans hb.symm).eq_of_pairwise ?_ h1 h2
  intro x y hx hy hxy hyx
  refine keys_inj hk x (ha.mem_iff.1 hx) y (hb.mem_iff.1 hy) ?_
  unfold leV at hxy hyx
  omega
theorem range_one {rs : List RowM} (hs : SortedR rs) {t : Int} {c : Nat} {lo hi : Int} {o : List RowM} (h1 : o.Perm (rs.filter (inR t c lo hi))) (h2 : o.Pairwise (leV c)) : o = rangeL rs t c lo hi :=
  sorted_one hs (fun r h => inR_t h) h1 (rangeL_perm rs t c lo hi) h2 (rangeL_sorted hs t c lo hi)
/-- The program's state: it lies in the segment s, and holds the rows rs. -/
def StIs (v : Value) (p : Int) (rs : List RowM) (s : List Chunk) : Prop := ∃ sp mb es ck lm, v = .pointer (some ⟨sp, 0, none⟩) ∧ MapM K2 es ck lm ∧ MapR lm rs ∧ SortedR rs ∧ rs.length ≤ 2000 ∧ s = [(sp, .cells #[.map (some mb), .int .i64 p] 154 (0, 0)), (mb, .map es ck)]

theorem st_range0 (sp mb : Nat) (p : Int) (es : Array MapEntry) (ck : Nat) (lm : List ((Int × Int) × Value)) (rs : List RowM) (hm : MapM K2 es ck lm) (hR : MapR lm rs) (hs : SortedR rs) (hn : rs.length ≤ 2000) (t : Int) (c : Nat) (lo hi : Int) (hc : c ≤ 3) :
    Does Tryz.prog 25 #[.pointer (some ⟨sp, 0, none⟩), .int .i64 t, .int .i64 (c : Int), .int .i64 lo, .int .i64 hi] [[(sp, .cells #[.map (some mb), .int .i64 p] 154 (0, 0))], [(mb, .map es ck)]] (fun r H' => ∃ so, RowS 5 74 r (rangeL rs t c lo hi).length (rowCells (rangeL rs t c lo hi)) so ∧ H' = [so, [(sp, .cells #[.map (some mb), .int .i64 p] 154 (0, 0))], [(mb, .map es ck)]]) := by
 refine spec_enter func25 rfl ntmps25 rfl ?_
 intro u R
 refine Zb [0, 1, 2, 3, 4] ?_
 refine Zq <| Zg <| Ze (w_box Y (cs := #[_]) rfl) ?_
 rintro _ _ ⟨b2, rfl, rfl⟩
 refine Ze (w_box Y (cs := #[_]) rfl) ?_
 rintro _ _ ⟨b1, rfl, rfl⟩
 refine Ze (w_box Y (cs := #[_]) rfl) ?_
 rintro _ _ ⟨b3, rfl, rfl⟩
 refine Ze (w_box Y (cs := #[_]) rfl) ?_
 rintro _ _ ⟨b4, rfl, rfl⟩
 refine Za Y <| Z0 <| Zx <| Zq <| Zq <| Zg <| Zl isAgg3 Y ?_
 first | refine op_v (p_lss_nat (n := 0) Y Y) ?_ | refine op_v (p_lss Y Y) ?_
 refine Zm Y ?_
 first | refine ops_split (t := 13) Y rfl (fun h1 => ?_) (fun h1 => ?_) | refine ops_split_bool (t := 13) Y rfl (fun h1 => ?_) (fun h1 => ?_)
 ·
  exfalso; first | exact h1 rfl | (cases h1; done) | contradiction | omega | (simp_all; done)
 ·
  refine op_rg Y (by repeat (first | exact Has.here _ | apply Has.there)) (p_load isAgg3 Y (by rfl)) rfl rfl ?_
  first | refine op_wg Y (p_geq_nat (n := 4) Y Y) rfl rfl ?_ | refine op_wg Y (p_geq Y Y) rfl rfl ?_
  refine Zv (p_pick_f Y Y) <| Z0 <| Zx ?_
  first | refine at_if Y (fun h2 => ?_) (fun h2 => ?_) | refine at_if_bool Y (fun h2 => ?_) (fun h2 => ?_)
  ·
   exfalso; first | exact h2 rfl | (cases h2; done) | contradiction | omega | (simp_all; done)
  ·
   refine at_skip <| Zx <| Zq <| Zg <| Zm Y <| Zl isAgg3 Y ?_
   refine Zv (p_makeFunc (vs := []) (us := [_, _, _, _]) Y Y) ?_
   refine Zc [_, _, _] Y call67 Y rfl (chosen_range sort_ok sp mb p es ck lm rs hm hR hs hn t c lo hi hc b1 b2 b3 b4) ?_
   rintro _ _ ⟨_, ⟨so, o, hro, hpm, hpw, rfl⟩, rfl⟩
   have e9 := range_one hs hpm hpw
   subst e9
   refine Za Y <| Z0 <| Zn [10] ?_
   refine Zx <| at_ret ?_
   refine nx_end1 rfl results25 Y (by exact ⟨so, hro, rfl⟩)

theorem st_range (v : Value) (p : Int) (rs : List RowM) (s : List Chunk) (hv : StIs v p rs s) (t : Int) (c : Nat) (lo hi : Int) (hc : c ≤ 3) : Does Tryz.prog 25 #[v, .int .i64 t, .int .i64 (c : Int), .int .i64 lo, .int .i64 hi] [s] (fun r H' => ∃ so, RowS 5 74 r (rangeL rs t c lo hi).length (rowCells (rangeL rs t c lo hi)) so ∧ H' = [so, s]) := by
  obtain ⟨sp, mb, es, ck, lm, rfl, hm, hR, hs, hn, rfl⟩ := hv
  refine does_re (st_range0 sp mb p es ck lm rs hm hR hs hn t c lo hi hc) (by simp) ?_
  rintro r H' ⟨so, hro, rfl⟩
  exact ⟨_, ⟨so, hro, rfl⟩, by simp⟩

end Go.Proofs.YtjeepldonhgohaaGreatDoor


namespace Go.Proofs.YtjeepldonhgohaaGreatDoor
open Go.Proofs.Tryz
open Go Go.RowKit Gw
set_option linter.unusedVariables false
set_option linter.unusedSimpArgs false
set_option maxRecDepth 100000
attribute [local irreducible] Gw.At Gw.Nx Gw.Ops
abbrev Bs := List UInt8
def leafS (s : Bs) : Bs := sha (0 :: s)
def nodeS (a b : Bs) : Bs := sha (1 :: (a ++ b))
/-- The greatest power of two that is less than n (n at least 2). -/
def leftN (n : Nat) : Nat := 2 ^ Nat.log2 (n - 1)
theorem left_pos (n : Nat) : 0 < leftN n := Nat.two_pow_pos _
theorem left_lt {n : Nat} (h : 2 ≤ n) : leftN n < n := by
  have := Nat.log2_self_le (n := n - 1) (by omega)
  unfold leftN; omega
theorem left_of {n e : Nat} (h1 : 2 ^ e < n) (h2 : n ≤ 2 ^ (e + 1)) : leftN n = 2 ^ e := by
  unfold leftN
  congr 1
  refine (Nat.log2_eq_iff (by have := Nat.two_pow_pos e; omega)).2 ⟨by omega, by omega⟩
theorem left_ge {n : Nat} (h : 2 ≤ n) : n ≤ 2 * leftN n := by
  have := Nat.lt_log2_self (n := n - 1)
  unfold leftN
  rw [Nat.pow_succ] at this
  omega
/-- The root of a list. -/
def rootT (l : List Bs) : Bs :=
  if h : 2 ≤ l.length then nodeS (rootT (l.take (leftN l.length))) (rootT (l.drop (leftN l.length)))
  else match l with
    | [] => sha []
    | x :: _ => leafS x
termination_by l.length
decreasing_by
  · have := left_lt h; rw [List.length_take]; omega
  · have := left_pos l.length; rw [List.length_drop]; omega
theorem root_nil : rootT [] = sha [] := by rw [rootT]; rfl
theorem root_one (x : Bs) : rootT [x] = leafS x := by rw [rootT]; rfl
theorem root_more {l : List Bs} (h : 2 ≤ l.length) : rootT l = nodeS (rootT (l.take (leftN l.length))) (rootT (l.drop (leftN l.length))) := by
  rw [rootT, dif_pos h]
theorem root_join {a b : List Bs} {e : Nat} (ha : a.length = 2 ^ e) (h0 : 0 < b.length) (hb : b.length ≤ 2 ^ e) : rootT (a ++ b) = nodeS (rootT a) (rootT b) := by
  have hp := Nat.two_pow_pos e
  have hl : leftN (a ++ b).length = a.length := by
    rw [ha]
    exact left_of (by rw [List.length_append]; omega) (by rw [List.length_append, Nat.pow_succ]; omega)
  rw [root_more (by rw [List.length_append]; omega), hl, List.take_left', List.drop_left']
  · rfl
  · rfl
/-- Complete parts, the largest one first. -/
structure BinP (ps : List (List Bs)) : Prop where
  pow : ∀ p ∈ ps, ∃ e, p.length = 2 ^ e
  lt : ps.Pairwise (fun a b => b.length < a.length)
theorem binP_nil : BinP [] := ⟨by simp, .nil⟩
theorem pow_lt {a b : Nat} (h : 2 ^ a < 2 ^ b) : 2 * 2 ^ a ≤ 2 ^ b := by
  have := (Nat.pow_lt_pow_iff_right (a := 2) (by omega)).1 h
  calc 2 * 2 ^ a = 2 ^ (a + 1) := by rw [Nat.pow_succ]; omega
    _ ≤ 2 ^ b := Nat.pow_le_pow_right (by omega) this
theorem BinP.tail {p : List Bs} {ps : List (List Bs)} (h : BinP (p :: ps)) : BinP ps := ⟨fun q hq => h.pow q (by simp [hq]), (List.pairwise_cons.1 h.lt).2⟩
theorem BinP.init {p : List Bs} {ps : List (List Bs)} (h : BinP (ps ++ [p])) : BinP ps := ⟨fun q hq => h.pow q (by simp [hq]), (List.pairwise_append.1 h.lt).1⟩
theorem BinP.sum : ∀ {ps : List (List Bs)} {e : Nat}, BinP ps → (∀ p ∈ ps, p.length < 2 ^ e) → ps.flatten.length < 2 ^ e
  | [], e, _, _ => by simpa using Nat.two_pow_pos e
  | p :: ps, e, h, hl => by
    obtain ⟨e1, h1⟩ := h.pow p (by simp)
    have h2 := hl p (by simp)
    rw [h1] at h2
    have h3 := pow_lt h2
    have h4 := BinP.sum (e := e1) h.tail (fun q hq => by rw [← h1]; exact (List.pairwise_cons.1 h.lt).1 q hq)
    rw [List.flatten_cons, List.length_append, h1]
    omega
theorem BinP.nonempty {ps : List (List Bs)} (h : BinP ps) (hn : ps ≠ []) : 0 < ps.flatten.length := by
  cases ps with
  | nil => exact absurd rfl hn
  | cons p ps =>
    obtain ⟨e, he⟩ := h.pow p (by simp)
    have := Nat.two_pow_pos e
    rw [List.flatten_cons, List.length_append]
    omega
theorem BinP.root : ∀ {ps : List (List Bs)} {q : List Bs}, BinP (ps ++ [q]) → ps.foldr (fun p o => nodeS (rootT p) o) (rootT q) = rootT (ps.flatten ++ q)
  | [], q, _ => by simp
  | p :: ps, q, h => by
    rw [List.foldr_cons, BinP.root (ps := ps) (q := q) h.tail, List.flatten_cons, List.append_assoc]
    obtain ⟨e, he⟩ := h.pow p (by simp)
    have hf : (ps ++ [q]).flatten = ps.flatten ++ q := by simp
    have ht : BinP (ps ++ [q]) := h.tail
    have h1 : 0 < (ps ++ [q]).flatten.length := BinP.nonempty ht (by simp)
    have h2 := BinP.sum (e := e) ht (fun r hr => by rw [← he]; exact (List.pairwise_cons.1 h.lt).1 r hr)
    rw [hf] at h1 h2
    exact (root_join he h1 (by omega)).symm
/-- Ahead of the merging of equal parts. -/
structure MergeI (ls : List Bs) (ps : List (List Bs)) (q : List Bs) (i : Nat) : Prop where
  bin : BinP ps
  pow : ∃ e, q.length = 2 ^ e
  le : ∀ p ∈ ps, q.length ≤ p.length
  flat : ps.flatten ++ q = ls.take i
theorem merge_new {ls : List Bs} {ps : List (List Bs)} {i : Nat} {s : Bs} (h : BinP ps) (hf : ps.flatten = ls.take i) (hs : ls[i]? = some s) : MergeI ls ps [s] (i + 1) :=
  ⟨h, ⟨0, rfl⟩, fun p hp => by
    obtain ⟨e, he⟩ := h.pow p hp
    have := Nat.two_pow_pos e
    rw [he]; simp; omega, by rw [List.take_add_one, hs, hf]; rfl⟩
theorem MergeI.step {ls : List Bs} {ps : List (List Bs)} {p q : List Bs} {i : Nat} (h : MergeI ls (ps ++ [p]) q i) (e : p.length = q.length) : MergeI ls ps (p ++ q) i ∧ rootT (p ++ q) = nodeS (rootT p) (rootT q) := by
  obtain ⟨e1, he⟩ := h.pow
  have hp := Nat.two_pow_pos e1
  refine ⟨⟨h.bin.init, ⟨e1 + 1, by rw [List.length_append, e, he, Nat.pow_succ]; omega⟩, ?_, ?_⟩, root_join (e.trans he) (by omega) (by omega)⟩
  · intro r hr
    obtain ⟨e2, h2⟩ := h.bin.pow r (by simp [hr])
    have h3 := (List.pairwise_append.1 h.bin.lt).2.2 r hr p (by simp)
    rw [e, he, h2] at h3
    have h4 := pow_lt h3
    rw [List.length_append, e, he, h2]
    omega
  · rw [← h.flat]; simp
theorem MergeI.done {ls : List Bs} {ps : List (List Bs)} {q : List Bs} {i : Nat} (h : MergeI ls ps q i) (hne : ∀ ps' p, ps = ps' ++ [p] → p.length ≠ q.length) : BinP (ps ++ [q]) ∧ (ps ++ [q]).flatten = ls.take i := by
  refine ⟨⟨?_, ?_⟩, by rw [← h.flat]; simp⟩
  · intro r hr
    rcases List.mem_append.1 hr with hr | hr
    · exact h.bin.pow r hr
    · rw [List.mem_singleton] at hr
      subst hr; exact h.pow
  · rw [List.pairwise_append]
    refine ⟨h.bin.lt, List.pairwise_singleton _ _, ?_⟩
    intro a ha b hb
    rw [List.mem_singleton] at hb
    subst hb
    rcases List.eq_nil_or_concat ps with rfl | ⟨ps', p, rfl⟩
    · simp at ha
    · have h1 := hne ps' p (by simp)
      have h2 := h.le p (by simp)
      have h3 := h.bin.lt
      simp only [List.concat_eq_append] at ha h3
      rw [List.pairwise_append] at h3
      rcases List.mem_append.1 ha with ha | ha
      · have := h3.2.2 a ha p (by simp)
        omega
      · rw [List.mem_singleton] at ha
        subst ha; omega
theorem take_at {cur : Array Value} {xs : List Value} (h : cur.toList.take xs.length = xs) {i : Nat} {x : Value} (hx : xs[i]? = some x) : cur[i]? = some x := by
  have hlt := (List.getElem?_eq_some_iff.1 hx).1
  rw [← h, List.getElem?_take, if_pos hlt, Array.getElem?_toList] at hx
  exact hx
theorem fold_rev (ps : List (List Bs)) (o : Bs) : (ps.map rootT).reverse.foldl (fun o r => nodeS r o) o = ps.foldr (fun p o => nodeS (rootT p) o) o := by
  rw [List.foldl_reverse, List.foldr_map]

/-- A list of strings that lies in memory. -/
def StrsU (M : List Chunk) (v : Value) (ls : List Bs) : Prop := ∃ p cap, v = .slice p ls.length cap ∧ (ls.length ≤ maxLen ∧ ls.length ≤ cap) ∧ ∀ (i : Nat) (s : Bs), ls[i]? = some s → ∃ g off cur T zz, p = some ⟨g, off, none⟩ ∧ (g, Obj.cells cur T zz) ∈ M ∧ cur[off + i]? = some (strV s)
def rtV (p : List Bs) : Value := strV (rootT p)
def lnV (p : List Bs) : Value := .int .i64 ((p.length : Nat) : Int)
theorem rowS_take {sz : Nat} {e : TypeId} {b : Option Addr} {n c : Nat} {xs : List Value} {s : List Chunk} (h : RowS sz e (.slice b n c) n xs s) (k : Nat) (hk : k ≤ n) : RowS sz e (.slice b k c) k (xs.take (k * sz)) s := by
  obtain ⟨hl, h⟩ := h
  refine ⟨by rw [List.length_take, hl, Nat.min_eq_left (Nat.mul_le_mul_right _ hk)], ?_⟩
  rcases h with ⟨h1, rfl, rfl⟩ | ⟨g, cap', cur, z, h1, rfl, h2, h3, h4, h5, h6⟩
  · injection h1 with e1 e2 e3
    subst e1 e3
    obtain rfl : k = 0 := by omega
    exact .inl ⟨rfl, rfl, rfl⟩
  · injection h1 with e1 e2 e3
    subst e1 e3
    refine .inr ⟨g, c, cur, z, rfl, rfl, by omega, h3, h4, ?_, h6⟩
    rw [← h5, List.take_take, Nat.min_eq_left (Nat.mul_le_mul_right _ hk)]
theorem rowS_get {e : TypeId} {v : Value} {n : Nat} {xs : List Value} {s : List Chunk} (h : RowS 1 e v n xs s) (h0 : 0 < n) : ∃ g cap cur z, v = .slice (some ⟨g, 0, none⟩) n cap ∧ s = [(g, .cells cur e z)] ∧ n ≤ cap ∧ ∀ (i : Nat) (x : Value), xs[i]? = some x → cur[i]? = some x := by
  obtain ⟨hl, ⟨_, h1, _⟩ | ⟨g, cap', cur, z, h1, rfl, h2, h3, h4, h5, h6⟩⟩ := h
  · omega
  · rw [← hl] at h5
    exact ⟨g, cap', cur, z, h1, rfl, h2, fun i x hx => take_at h5 hx⟩
theorem StrsU.mono {M M' : List Chunk} {v : Value} {ls : List Bs} (h : StrsU M v ls) (hm : ∀ c ∈ M, c ∈ M') : StrsU M' v ls := by
  obtain ⟨p, cap, e, hl, hg⟩ := h
  refine ⟨p, cap, e, hl, fun i s hs => ?_⟩
  obtain ⟨g, off, cur, T, zz, e1, h1, h2⟩ := hg i s hs
  exact ⟨g, off, cur, T, zz, e1, hm _ h1, h2⟩
theorem strsU_row {e : TypeId} {v : Value} {ls : List Bs} {s : List Chunk} (h : RowS 1 e v ls.length (ls.map strV) s) (hn : ls.length ≤ maxLen) : StrsU s v ls := by
  rcases Nat.eq_zero_or_pos ls.length with h0 | h0
  · obtain ⟨b, cap, rfl⟩ := h.form
    exact ⟨b, cap, rfl, ⟨hn, by omega⟩, fun i s hs => by rw [List.eq_nil_of_length_eq_zero h0] at hs; simp at hs⟩
  · obtain ⟨g, cap, cur, z, rfl, rfl, hle, hg⟩ := rowS_get h h0
    refine ⟨_, cap, rfl, ⟨hn, hle⟩, fun i s hs => ⟨g, 0, cur, e, z, rfl, by simp, ?_⟩⟩
    rw [Nat.zero_add]
    exact hg i _ (by rw [List.getElem?_map, hs]; rfl)
theorem root_len (l : List Bs) : (rootT l).length = 32 := by
  rw [rootT]
  split
  · exact sha_len _
  · split <;> exact sha_len _

theorem leaf_spec (s : Bs) (hs : s.length ≤ 1099511627000) (Tg : TypeId) (zg : Nat × Nat) : DoesR Tryz.prog 58 #[.string (str s)] [[(0, .cells (kTab.map u32v).toArray Tg zg)]] (.string (str (leafS s))) := by
 refine spec_enter func58 rfl ntmps58 rfl ?_
 intro u R
 refine Zb [0] ?_
 refine Zq <| Zg <| Za Y <| Z0 <| Zx <| Zq <| Zg <| Zc [_] Y call92 Y rfl (marked_spec (str [0])) ?_
 rintro _ _ ⟨_, ⟨bm, rfl, rfl⟩, rfl⟩
 refine Zm Y <| Ze (w_buildSlice (vs := [_]) (cs := [_]) underlying35 sizeOf9 zeroValue9 Y rfl rfl rfl rfl rfl) ?_
 rintro _ _ ⟨bk, rfl, rfl⟩
 refine Zr [_] Y call121 Y rfl (marked_in_spec bk 0 1 bm #[strV s] _ _ _ _ [s] [0] rfl (by simp) (by simp) (by simp; omega) _ _) ?_
 rintro _ _ ⟨rfl, rfl⟩
 refine Za Y <| Z0 <| Zx <| at_ret ?_
 refine nx_end1 rfl results58 Y (by exact ⟨by simp [leafS], rfl⟩)

theorem node_spec (a b : Bs) (ha : a.length ≤ 1000000000) (hb : b.length ≤ 1000000000) (Tg : TypeId) (zg : Nat × Nat) : DoesR Tryz.prog 59 #[.string (str a), .string (str b)] [[(0, .cells (kTab.map u32v).toArray Tg zg)]] (.string (str (nodeS a b))) := by
 refine spec_enter func59 rfl ntmps59 rfl ?_
 intro u R
 refine Zb [0, 1] ?_
 refine Zq <| Zg <| Za Y <| Z0 <| Zx <| Zq <| Zg <| Zc [_] Y call92 Y rfl (marked_spec (str [1])) ?_
 rintro _ _ ⟨_, ⟨bm, rfl, rfl⟩, rfl⟩
 refine Zm Y <| Zm Y <| Ze (w_buildSlice (vs := [_, _]) (cs := [_, _]) underlying35 sizeOf9 zeroValue9 Y rfl rfl rfl rfl rfl) ?_
 rintro _ _ ⟨bk, rfl, rfl⟩
 refine Zr [_] Y call121 Y rfl (marked_in_spec bk 0 2 bm #[strV a, strV b] _ _ _ _ [a, b] [1] rfl (by simp) (by simp) (by simp; omega) _ _) ?_
 rintro _ _ ⟨rfl, rfl⟩
 refine Za Y <| Z0 <| Zx <| at_ret ?_
 refine nx_end1 rfl results59 Y (by exact ⟨by simp [nodeS], rfl⟩)

end Go.Proofs.YtjeepldonhgohaaGreatDoor
