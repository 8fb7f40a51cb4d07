/- Walking by chunks: lists of three numbers compared. No function of the program is named. -/
import Derived.Test.YthbadolcncojbaaGreatDoorEx13
import Derived.Laws.StructEq

namespace Gw
open Go Go.RowKit
/-- Three numbers. -/
structure V3 where
  a : Int
  b : Int
  c : Int
deriving DecidableEq
def V3.zero : V3 := ⟨0, 0, 0⟩
theorem V3.eq_iff (x y : V3) : x = y ↔ (x.a = y.a ∧ x.b = y.b ∧ x.c = y.c) := by
  constructor
  · rintro rfl; exact ⟨rfl, rfl, rfl⟩
  · cases x; cases y; rintro ⟨h1, h2, h3⟩; simp only at h1 h2 h3; rw [h1, h2, h3]
section
variable {P : Program} {u : World} {env : Env} {H R : Hp} {d : Option Nat} {ty : TypeId} {pos : String} {af : Array Edge} {g : Option (Nat × Bool)}
theorem eq_int1 {e : TypeId} (n : Nat) (w : World) (he : P.underlying e = some (.int .i64)) (m k : Int) : (Op.equalIn (n + 1) e (.int .i64 m) (.int .i64 k)).run P w = .ok (decide (m = k)) w := by
  simp [Op.equalIn, run_underlying he]
  by_cases h : m = k <;> simp [h]
theorem part_int1 {e : TypeId} (w : World) (ha : (isAgg e).run P w = .ok false w) (xs : Array Value) (j : Nat) {v : Value} (h : xs[j]? = some v) : (part e xs j).run P w = .ok v w := by
  simp [part, ha, h]
theorem eq_arr3 {t e : TypeId} (w : World) (n : Nat) (x y : V3) (hu : P.underlying t = some (.array 3 e)) (he : P.underlying e = some (.int .i64)) (ha : ∀ w : World, (isAgg e).run P w = .ok false w) (hs : ∀ w : World, (Go.sizeOf e).run P w = .ok 1 w) :
    (Op.equalIn (n + 2) t (.agg #[.int .i64 x.a, .int .i64 x.b, .int .i64 x.c]) (.agg #[.int .i64 y.a, .int .i64 y.b, .int .i64 y.c])).run P w = .ok (decide (x = y)) w := by
  have ei : ∀ (m k : Int) (w : World), (Op.equalIn (n + 1) e (.int .i64 m) (.int .i64 k)).run P w = .ok (decide (m = k)) w := fun m k w => eq_int1 n w he m k
  have p0 : ∀ (v0 v1 v2 : Value) (w : World), (part e #[v0, v1, v2] 0).run P w = .ok v0 w := fun _ _ _ w => part_int1 w (ha w) _ _ rfl
  have p1 : ∀ (v0 v1 v2 : Value) (w : World), (part e #[v0, v1, v2] 1).run P w = .ok v1 w := fun _ _ _ w => part_int1 w (ha w) _ _ rfl
  have p2 : ∀ (v0 v1 v2 : Value) (w : World), (part e #[v0, v1, v2] 2).run P w = .ok v2 w := fun _ _ _ w => part_int1 w (ha w) _ _ rfl
  rw [show n + 2 = (n + 1) + 1 from rfl, Op.equalIn]
  generalize n + 1 = m at *
  simp only [Sem.run_bind, run_underlying hu, Result.andThen_ok, hs]
  simp only [Std.Legacy.Range.forIn_eq_forIn_range', Std.Legacy.Range.size, Nat.sub_zero, Nat.add_sub_cancel, Nat.div_one, List.range'_succ, List.range'_zero, List.forIn_cons, List.forIn_nil]
  simp only [Sem.run_bind, p0, p1, p2, ei, Result.andThen_ok, Nat.zero_add, Nat.mul_one, Nat.one_mul, Nat.zero_mul, V3.eq_iff]
  by_cases h1 : x.a = y.a <;> by_cases h2 : x.b = y.b <;> by_cases h3 : x.c = y.c <;> simp [h1, h2, h3, p0, p1, p2, ei]
theorem bin_eql_agg {t : TypeId} (p q : Array Value) : binOp .eql t (.agg p) (.agg q) = (do pure (.bool (← Op.equal t (.agg p) (.agg q)))) := rfl
theorem bin_neq_agg {t : TypeId} (p q : Array Value) : binOp .neq t (.agg p) (.agg q) = (do pure (.bool (!(← Op.equal t (.agg p) (.agg q))))) := rfl
section
variable {t yt e : TypeId} {x y : Operand} {p q : V3}
theorem p_eql_arr3 (hg : P.eqGuardType P.depth t = false) (hu : P.underlying t = some (.array 3 e)) (he : P.underlying e = some (.int .i64)) (ha : ∀ w : World, (isAgg e).run P w = .ok false w) (hs : ∀ w : World, (Go.sizeOf e).run P w = .ok 1 w)
    (hx : ∀ a, ev a env x = .agg #[.int .i64 p.a, .int .i64 p.b, .int .i64 p.c]) (hy : ∀ a, ev a env y = .agg #[.int .i64 q.a, .int .i64 q.b, .int .i64 q.c]) : OpP P ⟨d, .binOp .eql t x y yt, ty, pos, af, g⟩ env [] (.bool (decide (p = q))) := fun a w _ => by
  simp [x_binOp, hx a, hy a, go_sem, run_eqGuard_agg w _ t _ _ _ _ hg, bin_eql_agg, Op.equal, Op.maxDepth, eq_arr3 w 9998 p q hu he ha hs]
theorem p_neq_arr3 (hg : P.eqGuardType P.depth t = false) (hu : P.underlying t = some (.array 3 e)) (he : P.underlying e = some (.int .i64)) (ha : ∀ w : World, (isAgg e).run P w = .ok false w) (hs : ∀ w : World, (Go.sizeOf e).run P w = .ok 1 w)
    (hx : ∀ a, ev a env x = .agg #[.int .i64 p.a, .int .i64 p.b, .int .i64 p.c]) (hy : ∀ a, ev a env y = .agg #[.int .i64 q.a, .int .i64 q.b, .int .i64 q.c]) : OpP P ⟨d, .binOp .neq t x y yt, ty, pos, af, g⟩ env [] (.bool (decide (p ≠ q))) := fun a w _ => by
  simp [x_binOp, hx a, hy a, go_sem, run_eqGuard_agg w _ t _ _ _ _ hg, bin_neq_agg, Op.equal, Op.maxDepth, eq_arr3 w 9998 p q hu he ha hs]
theorem p_eql_arr3z (hg : P.eqGuardType P.depth t = false) (hu : P.underlying t = some (.array 3 e)) (he : P.underlying e = some (.int .i64)) (ha : ∀ w : World, (isAgg e).run P w = .ok false w) (hs : ∀ w : World, (Go.sizeOf e).run P w = .ok 1 w)
    (hx : ∀ a, ev a env x = .agg #[.int .i64 p.a, .int .i64 p.b, .int .i64 p.c]) (hy : ∀ a, ev a env y = .agg #[.int .i64 0, .int .i64 0, .int .i64 0]) : OpP P ⟨d, .binOp .eql t x y yt, ty, pos, af, g⟩ env [] (.bool (decide (p = V3.zero))) := p_eql_arr3 (q := V3.zero) hg hu he ha hs hx hy
theorem p_neq_arr3z (hg : P.eqGuardType P.depth t = false) (hu : P.underlying t = some (.array 3 e)) (he : P.underlying e = some (.int .i64)) (ha : ∀ w : World, (isAgg e).run P w = .ok false w) (hs : ∀ w : World, (Go.sizeOf e).run P w = .ok 1 w)
    (hx : ∀ a, ev a env x = .agg #[.int .i64 p.a, .int .i64 p.b, .int .i64 p.c]) (hy : ∀ a, ev a env y = .agg #[.int .i64 0, .int .i64 0, .int .i64 0]) : OpP P ⟨d, .binOp .neq t x y yt, ty, pos, af, g⟩ env [] (.bool (decide (p ≠ V3.zero))) := p_neq_arr3 (q := V3.zero) hg hu he ha hs hx hy
end
end
def V3.get (v : V3) (i : Nat) : Int := if i = 0 then v.a else if i = 1 then v.b else v.c
theorem v3_at (x y : Value) (v : V3) (i : Nat) (h : i < 3) : (#[x, y, Value.int .i64 v.a, .int .i64 v.b, .int .i64 v.c] : Array Value)[2 + i]? = some (.int .i64 (v.get i)) := by
  rcases i with _ | _ | _ | i
  · rfl
  · rfl
  · rfl
  · omega
def inV (n : Int) : Prop := -1000000000 ≤ n ∧ n ≤ 1000000000
instance (n : Int) : Decidable (inV n) := inferInstanceAs (Decidable (_ ∧ _))
def V3.ok (v : V3) : Prop := inV v.a ∧ inV v.b ∧ inV v.c
instance (v : V3) : Decidable v.ok := inferInstanceAs (Decidable (_ ∧ _ ∧ _))
theorem v3_ok {v : V3} : v.ok ↔ ∀ i, i < 3 → inV (v.get i) := by
  constructor
  · rintro ⟨h1, h2, h3⟩ i hi
    rcases i with _ | _ | _ | i
    · exact h1
    · exact h2
    · exact h3
    · omega
  · intro h; exact ⟨h 0 (by omega), h 1 (by omega), h 2 (by omega)⟩
theorem v3_more {v : V3} {i : Nat} (h : ∀ j, j < i → inV (v.get j)) (hi : inV (v.get i)) : ∀ j, j < i + 1 → inV (v.get j) := by
  intro j hj
  rcases Nat.lt_or_ge j i with h9 | h9
  · exact h j h9
  · have e : j = i := by omega
    rw [e]; exact hi
end Gw
