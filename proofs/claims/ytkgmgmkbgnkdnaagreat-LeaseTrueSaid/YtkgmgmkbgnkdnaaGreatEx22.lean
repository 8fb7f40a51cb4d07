/- Walking by chunks: rows and lists of six numbers compared. No function of the program is named. -/
import Derived.Test.YtkgmgmkbgnkdnaaGreatEz
import Derived.Test.YtkgmgmkbgnkdnaaGreatEx21
import Derived.Test.YtkgmgmkbgnkdnaaGreatEx14

namespace Gw
open Go Go.RowKit
section
variable {P : Program} {u : World} {env : Env} {H R : Hp} {d : Option Nat} {ty : TypeId} {pos : String} {af : Array Edge} {g : Option (Nat × Bool)}
def RowEq (t1 t2 k1 k2 : Int) (x y : V3) : Prop := t1 = t2 ∧ k1 = k2 ∧ x = y
instance (t1 t2 k1 k2 : Int) (x y : V3) : Decidable (RowEq t1 t2 k1 k2 x y) := inferInstanceAs (Decidable (_ ∧ _ ∧ _))
theorem eq_row {t e ta : TypeId} {f0 f1 f2 : Field} (w : World) (n : Nat) (t1 t2 k1 k2 : Int) (x y : V3) (hu : P.underlying t = some (.struct #[f0, f1, f2])) (hst : P.stoodInHeld t = false)
    (h0 : f0.name ≠ "_" ∧ f0.type = e ∧ f0.offset = 0) (h1 : f1.name ≠ "_" ∧ f1.type = e ∧ f1.offset = 1) (h2 : f2.name ≠ "_" ∧ f2.type = ta ∧ f2.offset = 2)
    (he : P.underlying e = some (.int .i64)) (hta : P.underlying ta = some (.array 3 e)) (ha : ∀ w : World, (isAgg e).run P w = .ok false w) (hs : ∀ w : World, (Go.sizeOf e).run P w = .ok 1 w)
    (haa : ∀ w : World, (isAgg ta).run P w = .ok true w) (hsa : ∀ w : World, (Go.sizeOf ta).run P w = .ok 3 w) :
    (Op.equalIn (n + 3) t (.agg #[.int .i64 t1, .int .i64 k1, .int .i64 x.a, .int .i64 x.b, .int .i64 x.c]) (.agg #[.int .i64 t2, .int .i64 k2, .int .i64 y.a, .int .i64 y.b, .int .i64 y.c])).run P w = .ok (decide (RowEq t1 t2 k1 k2 x y)) w := by
  obtain ⟨n0, e0, o0⟩ := h0
  obtain ⟨n1, e1, o1⟩ := h1
  obtain ⟨n2, e2, o2⟩ := h2
  have ei : ∀ (m k : Int) (w : World), (Op.equalIn (n + 2) e (.int .i64 m) (.int .i64 k)).run P w = .ok (decide (m = k)) w := fun m k w => eq_int1 (n + 1) w he m k
  have ea : ∀ (w : World), (Op.equalIn (n + 2) ta (.agg #[.int .i64 x.a, .int .i64 x.b, .int .i64 x.c]) (.agg #[.int .i64 y.a, .int .i64 y.b, .int .i64 y.c])).run P w = .ok (decide (x = y)) w := fun w => eq_arr3 w n x y hta he ha hs
  have p0 : ∀ (v0 v1 v2 v3 v4 : Value) (w : World), (part e #[v0, v1, v2, v3, v4] 0).run P w = .ok v0 w := fun _ _ _ _ _ w => part_int1 w (ha w) _ _ rfl
  have p1 : ∀ (v0 v1 v2 v3 v4 : Value) (w : World), (part e #[v0, v1, v2, v3, v4] 1).run P w = .ok v1 w := fun _ _ _ _ _ w => part_int1 w (ha w) _ _ rfl
  have p2 : ∀ (v0 v1 v2 v3 v4 : Value) (w : World), (part ta #[v0, v1, v2, v3, v4] 2).run P w = .ok (.agg #[v2, v3, v4]) w := fun _ _ _ _ _ w => by simp [part, haa, hsa]
  rw [show n + 3 = (n + 2) + 1 from rfl, Op.equalIn]
  generalize n + 2 = m at *
  simp only [Sem.run_bind, run_underlying hu, Result.andThen_ok, run_program, hst, Bool.false_eq_true, if_false]
  rw [← Array.forIn_toList]
  simp only [List.forIn_cons, List.forIn_nil, n0, n1, n2, e0, e1, e2, o0, o1, o2, ne_eq, not_false_eq_true, if_true]
  simp only [Sem.run_bind, p0, p1, p2, ei, ea, Result.andThen_ok]
  have hd : decide (RowEq t1 t2 k1 k2 x y) = (decide (t1 = t2) && (decide (k1 = k2) && decide (x = y))) := by
    by_cases h : RowEq t1 t2 k1 k2 x y
    · rw [decide_eq_true h, decide_eq_true h.1, decide_eq_true h.2.1, decide_eq_true h.2.2]; rfl
    · rw [decide_eq_false h]
      by_cases c1 : t1 = t2 <;> by_cases c2 : k1 = k2 <;> by_cases c3 : x = y <;> simp [c1, c2, c3]
      exact h ⟨c1, c2, c3⟩
  rw [hd]
  generalize decide (x = y) = b3 at *
  by_cases c1 : t1 = t2 <;> by_cases c2 : k1 = k2 <;> cases b3 <;> simp [c1, c2, p0, p1, p2, ei, ea, n1, n2]
section
variable {t yt e ta : TypeId} {f0 f1 f2 : Field} {x y : Operand} {t1 t2 k1 k2 : Int} {p q : V3}
theorem p_neq_row (hg : P.eqGuardType P.depth t = false) (hu : P.underlying t = some (.struct #[f0, f1, f2])) (hst : P.stoodInHeld t = false)
    (h0 : f0.name ≠ "_" ∧ f0.type = e ∧ f0.offset = 0) (h1 : f1.name ≠ "_" ∧ f1.type = e ∧ f1.offset = 1) (h2 : f2.name ≠ "_" ∧ f2.type = ta ∧ f2.offset = 2)
    (he : P.underlying e = some (.int .i64)) (hta : P.underlying ta = some (.array 3 e)) (ha : ∀ w : World, (isAgg e).run P w = .ok false w) (hs : ∀ w : World, (Go.sizeOf e).run P w = .ok 1 w)
    (haa : ∀ w : World, (isAgg ta).run P w = .ok true w) (hsa : ∀ w : World, (Go.sizeOf ta).run P w = .ok 3 w)
    (hx : ∀ a, ev a env x = .agg #[.int .i64 t1, .int .i64 k1, .int .i64 p.a, .int .i64 p.b, .int .i64 p.c]) (hy : ∀ a, ev a env y = .agg #[.int .i64 t2, .int .i64 k2, .int .i64 q.a, .int .i64 q.b, .int .i64 q.c]) : OpP P ⟨d, .binOp .neq t x y yt, ty, pos, af, g⟩ env [] (.bool (decide (¬ RowEq t1 t2 k1 k2 p q))) := fun a w _ => by
  simp [x_binOp, hx a, hy a, go_sem, run_eqGuard_agg w _ t _ _ _ _ hg, bin_neq_agg, Op.equal, Op.maxDepth, eq_row w 9997 t1 t2 k1 k2 p q hu hst h0 h1 h2 he hta ha hs haa hsa]
end
end
theorem does_re {P : Program} {f : FuncId} {args : Array Value} {H H1 : Hp} {Q Q1 : Value → Hp → Prop} (h : Does P f args H Q) (hf : H1.flatten = H.flatten) (hq : ∀ v H', Q v H' → ∃ H2, Q1 v H2 ∧ H2.flatten.Perm H'.flatten) : Does P f args H1 Q1 := fun u R w hs =>
  Calls.mono (h u R w (hs.sub ⟨[], by simp [hf]⟩)) fun e w' he => by
    rcases he with ⟨v, H', rfl, h1, h2⟩ | ⟨ch, H', rfl, h1, h2⟩
    · obtain ⟨H2, h3, h4⟩ := hq v H' h1
      refine .inl ⟨v, H2, rfl, h3, h2.perm ?_⟩
      rw [List.flatten_append, List.flatten_append]
      exact h4.symm.append_right _
    · exact h1.elim
end Gw
