/- Walking by chunks: entries of a map literal; pointers that may be nil, compared with nil. No function of the program is named. -/
import Derived.Test.YtkgmgmkbgnkdnaaGreatDoorEx20
namespace Gw
open Go Go.RowKit
section
variable {α : Type} {κ : α → Value} {D : α → Prop} {P : Program} {es : Array MapEntry} {clock r : Nat} {l : List (α × Value)} {kt et : TypeId}
variable {u : World} {env : Env} {H R : Hp} {d : Option Nat} {ty : TypeId} {pos : String} {af : Array Edge} {g : Option (Nat × Bool)} {t : TypeId} {m x y : Operand} {k : α} {v : Value}
theorem w_insert (hK : KeyOk P kt κ D) (ht : P.underlying t = some (.map kt et)) (hm : MapM κ es clock l) (hl : ∀ p ∈ l, D p.1) (hk : D k) (hx : ∀ a, ev a env m = .map (some r)) (hy : ∀ a, ev a env x = κ k) (hv : ∀ a, ev a env y = v) (hone : One [(r, .map es clock)] H R) :
    OpW P u ⟨d, .insert t m x y, ty, pos, af, g⟩ env H (fun v' H1 => v' = undef ∧ ∃ es' clock' l', MapM κ es' clock' l' ∧ (∀ p, p ∈ l' ↔ p = (k, v) ∨ (p ∈ l ∧ p.1 ≠ k)) ∧ H1 = [(r, .map es' clock')] :: R) (fun _ _ => False) := fun a w hs K Kp hK2 hp =>
  w_mapUpdate (d := d) (ty := ty) (pos := pos) (af := af) (g := g) hK ht hm hl hk hx hy hv hone a w hs K Kp hK2 hp
theorem p_lookup1 [DecidableEq α] {et : TypeId} {z v0 : Value} (hK : KeyOk P kt κ D) (ht : P.underlying t = some (.map kt et)) (hz : ∀ w : World, (zeroValue et).run P w = .ok z w) (hm : MapM κ es clock l) (hl : ∀ p ∈ l, D p.1) (hk : D k) (hv : (mget k l).getD z = v0) (hx : ∀ a, ev a env m = .map (some r)) (hy : ∀ a, ev a env x = κ k) :
    OpP P ⟨d, .lookup t m x false, ty, pos, af, g⟩ env [(r, .map es clock)] v0 := fun a w hs => by
  have hb := hs (r, .map es clock) (by simp)
  show ((do pure (Next.value (← Instr.lookup t (ev a env m) (ev a env x) false))) : Sem Next).run P w = _
  rw [hx a, hy a, ← hv]
  rcases find_cases hK hm hl w k hk with ⟨h1, h2⟩ | ⟨j, v, h1, h2⟩
  · rw [mget_none h2]
    simp only [Instr.lookup, Sem.run_bind, run_underlying ht, Result.andThen, MapKept.run_getObj_map hb, run_check hK hk, Sem.run_pure, h1, hz]
    rfl
  · rw [mget_mem hm.keys (List.mem_of_getElem? h2)]
    simp only [Instr.lookup, Sem.run_bind, run_underlying ht, Result.andThen, MapKept.run_getObj_map hb, run_check hK hk, Sem.run_pure, h1]
    rfl
theorem p_eql_ptrO {d : Nat} {x y : Operand} {t yt e : TypeId} {p : Option Addr} (hu : P.underlying t = some (.pointer e)) (hx : ∀ a, ev a env x = .pointer p) (hy : ∀ a, ev a env y = .pointer none) : OpP P ⟨some d, .binOp .eql t x y yt, ty, pos, af, g⟩ env [] (.bool p.isNone) := by
  cases p with
  | none => exact p_eql_nil_nil hu hx hy
  | some a => exact p_eql_ptr_nil hu hx hy
theorem p_neq_ptrO {d : Nat} {x y : Operand} {t yt e : TypeId} {p : Option Addr} (hu : P.underlying t = some (.pointer e)) (hx : ∀ a, ev a env x = .pointer p) (hy : ∀ a, ev a env y = .pointer none) : OpP P ⟨some d, .binOp .neq t x y yt, ty, pos, af, g⟩ env [] (.bool p.isSome) := by
  cases p with
  | none => exact p_neq_nil_nil hu hx hy
  | some a => exact p_neq_ptr_nil hu hx hy
theorem over_arr {c cs : Array Value} (h : cs.size = c.size) : over c 0 cs.toList = cs := by
  rw [over_new c cs.toList (by simpa using h)]
theorem ext_whole {c : Array Value} {n : Nat} (h : c.size = n) : c.extract 0 (0 + n) = c := by
  subst h; simp
end
end Gw
