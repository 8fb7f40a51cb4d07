/- Walking by chunks: a load out of a segment in a region that draws; the same memory cut otherwise. No function of the program is named. -/
/- Walking by chunks: a range over a function that hands on values with memory of their own. No function of the program is named. -/
/- Walking by chunks: append of what lies in a memory that is read by membership, to an own slice whose elements are of several cells. No function of the program is named. -/
import Derived.Test.YtkgmgmkbgnkdnaaGreatEz
import Derived.Test.YtkgmgmkbgnkdnaaGreatEx5
import Derived.Test.YtkgmgmkbgnkdnaaGreatEx14
import Derived.Test.YtkgmgmkbgnkdnaaGreatEx16
import Derived.Test.YtkgmgmkbgnkdnaaGreatEx22
import Derived.Test.YtkgmgmkbgnkdnaaGreatEx6
import Derived.Scope

namespace Gw
open Go Go.RowKit
section
variable {P : Program} {ops : Array Oper} {A : List Nat} {F : Nat} {cx : Cx} {Q : Exit → Act → World → Prop} {n D : Nat} {T : List (Nat × Chunk)} {env : Env} {H : Hp}
theorem lin_rm {d : Nat} {op : Op} {ty : TypeId} {pos : String} {af : Array Edge} {v : Value} {b : Nat} {x : Obj} {D' : Nat} (i : Nat) (ho : ops[i]? = some ⟨some d, op, ty, pos, af, none⟩) (h1 : (!bit F i && !bit D i && within (A.getD i 0) D) = true) (hD : D ||| (1 <<< i) = D') (hb : (b, x) ∈ H.flatten) (hop : OpP P ⟨some d, op, ty, pos, af, none⟩ env [(b, x)] v)
    (k : Lin P ops A F cx Q n D' ((i, (b, x)) :: T) ((d, v) :: env) H) : Lin P ops A F cx Q (n + 1) D T env H := by
  simp only [Bool.and_eq_true, Bool.not_eq_true'] at h1
  subst hD
  exact .inl ⟨i, _, v, [(b, x)], ho, h1.1.2, h1.2, by simpa using hb, .inl ⟨fun _ => rfl, hop⟩, k⟩
end
end Gw

namespace Gw
open Go Go.RowKit
section
variable {P : Program} {env : Env} {d : Option Nat} {ty : TypeId} {pos : String} {af : Array Edge} {g : Option (Nat × Bool)}
theorem p_max_int {x y : Operand} {Ts : Array TypeId} {k : IntKind} {m n : Int} (hx : ∀ a, ev a env x = .int k m) (hy : ∀ a, ev a env y = .int k n) : OpP P ⟨d, .call ⟨.builtin .max, #[x, y], Ts⟩, ty, pos, af, g⟩ env [] (.int k (max m n)) := fun a w _ => by
  simp [x_call, resolve, invoke, builtin, hx a, hy a, Builtin.max_, Builtin.max2]
  by_cases h : m < n
  · simp [h, show max m n = n by omega]
  · simp [h, show max m n = m by omega]
theorem p_max_pred {x y : Operand} {Ts : Array TypeId} {k : IntKind} {m : Nat} (hx : ∀ a, ev a env x = .int k ((m : Int) - 1)) (hy : ∀ a, ev a env y = .int k 0) : OpP P ⟨d, .call ⟨.builtin .max, #[x, y], Ts⟩, ty, pos, af, g⟩ env [] (.int k ((m - 1 : Nat) : Int)) := by
  have h := p_max_int (P := P) (d := d) (ty := ty) (pos := pos) (af := af) (g := g) (Ts := Ts) hx hy
  rwa [show max ((m : Int) - 1) 0 = ((m - 1 : Nat) : Int) by omega] at h
end
end Gw

namespace Gw
open Go Go.RowKit
def CellsM (M : List Chunk) (p : Option Addr) (ys : List Value) : Prop := ∀ (j : Nat) (u : Value), ys[j]? = some u → ∃ g o c T z, p = some ⟨g, o, none⟩ ∧ (g, Obj.cells c T z) ∈ M ∧ c[o + j]? = some u
theorem One.mem9 {s : List Chunk} {H R : Hp} (h : One s H R) : ∀ c ∈ s, c ∈ H.flatten := by
  intro c hc
  have := h.perm.mem_iff (a := c)
  rw [this]
  simp [hc]
section
variable {P : Program} {u : World} {env : Env} {H R R2 : Hp} {d : Option Nat} {ty : TypeId} {pos : String} {af : Array Edge} {g : Option (Nat × Bool)}
theorem w_appendM {x y : Operand} {t e : TypeId} {i : TypeInfo} {z : Value} {by_ sz n k c : Nat} {v : Value} {p : Option Addr} {xs ys : List Value} {s M : List Chunk}
    (ht : P.underlying t = some (.slice e)) (hi : P.info? e = some i) (hsz : i.size = sz) (hby : i.bytes = by_) (hzi : i.zero = some z) (hz1 : z.cells.size = sz)
    (hx : ∀ a, ev a env x = v) (hrow : RowS sz e v n xs s) (hy : ∀ a, ev a env y = .slice p k c) (hsrc : CellsM M p ys) (hl : ys.length = k * sz) (h0 : 0 < sz) (hone : One s H R) (htwo : One M R R2) (h1 : ∀ u ∈ ys, u.oneCell' = true)
    (h63 : n + k ≤ maxLen) (hb : (n + k) * by_ ≤ 140737488355328) :
    OpW P u ⟨d, .call ⟨.builtin .append, #[x, y], #[t, t]⟩, ty, pos, af, g⟩ env H (fun v' H1 => ∃ s', RowS sz e v' (n + k) (xs ++ ys) s' ∧ H1 = s' :: R) (fun _ _ => False) := by
  rcases Nat.eq_zero_or_pos k with hk | hk
  · subst hk
    have hy0 : ys = [] := List.eq_nil_of_length_eq_zero (by omega)
    subst hy0
    obtain ⟨b, c', rfl⟩ := hrow.form
    have hle : n ≤ c' := by
      obtain ⟨_, ⟨hv, h0, _⟩ | ⟨_, _, _, _, hv, _, h2, _⟩⟩ := hrow
      · omega
      · injection hv with _ _ hv3; omega
    intro a w hsat K Kp hK _
    have hs1 : Sat u (s :: R) w := hsat.perm (by simpa using hone.perm)
    have hl0 : (Builtin.firstCells i.size 0 (.slice p 0 c)).run P w = .ok #[] w := by
      cases p with
      | none => simp [Builtin.firstCells]
      | some ad => simp [Builtin.firstCells, loadCells, loadCellsFrom]
    have hr : (Builtin.append_ #[t, t] ty #[.slice b n c', .slice p 0 c]).run P w = .ok (.slice b n c') w := by
      rw [hsz] at hl0
      cases b with
      | none => simp [Builtin.append_, run_underlying ht, Go.sizeOf, typeInfo, hi, hsz, Builtin.lenOf, hle, hl0]
      | some ad => simp [Builtin.append_, run_underlying ht, Go.sizeOf, typeInfo, hi, hsz, Builtin.lenOf, hle, hl0, storeCells]
    have hx' : (execOp (ev a env) ⟨d, .call ⟨.builtin .append, #[x, y], #[t, t]⟩, ty, pos, af, g⟩).run P w = .ok (.value (.slice b n c')) w := by
      simp only [x_call, resolve, invoke, builtin, List.map_toArray, List.map_cons, List.map_nil, hx a, hy a, Sem.run_bind, Sem.run_pure, Result.andThen_ok, hr]
    rw [hx']
    exact hK _ _ _ ⟨s, by rw [List.append_nil]; exact hrow, rfl⟩ hs1
  · have hpos : 0 < ys.length := by rw [hl]; exact Nat.mul_pos hk h0
    obtain ⟨gb, o, _, _, _, rfl, _, _⟩ := hsrc 0 _ (List.getElem?_eq_getElem hpos)
    refine w_appendW ht hi hsz hby hzi hz1 hx hrow hy hone (fun w hs j v hj => ?_) hl h1 hk h63 hb
    obtain ⟨g', o', c1, T1, z1, e, hm, hc⟩ := hsrc j v hj
    injection e with e
    injection e with e1 e2
    subst e1 e2
    rw [add_addr]
    exact sat_cell (hs.get _ (htwo.mem9 _ hm)) hc
end
end Gw
