/- Walking by chunks: a load out of a segment in a region that draws; the same memory cut otherwise. No function of the program is named. -/
import Derived.Test.YthbadolcncojbaaGreatDoorEx5
import Derived.Test.YthbadolcncojbaaGreatDoorEx11
import Derived.Test.YthbadolcncojbaaGreatDoorEx16

namespace Gw
open Go Go.RowKit
section
variable {P : Program} {ops : Array Oper} {A : List Nat} {F : Nat} {cx : Cx} {Q : Exit → Act → World → Prop} {n D : Nat} {T : List (Nat × Chunk)} {env : Env} {H : Hp}
theorem lin_rgm {d : Nat} {op : Op} {ty : TypeId} {pos : String} {af : Array Edge} {g : Nat × Bool} {v : Value} {b : Nat} {x : Obj} {D' : Nat} (i : Nat) (hg : ∀ a, wantedE ops a env (some g) = true) (ho : ops[i]? = some ⟨some d, op, ty, pos, af, some g⟩) (h1 : (!bit F i && !bit D i && within (A.getD i 0) D) = true) (hD : D ||| (1 <<< i) = D') (hb : (b, x) ∈ H.flatten) (hop : OpP P ⟨some d, op, ty, pos, af, some g⟩ env [(b, x)] v)
    (k : Lin P ops A F cx Q n D' ((i, (b, x)) :: T) ((d, v) :: env) H) : Lin P ops A F cx Q (n + 1) D T env H := by
  simp only [Bool.and_eq_true, Bool.not_eq_true'] at h1
  subst hD
  exact .inl ⟨i, _, v, [(b, x)], ho, h1.1.2, h1.2, by simpa using hb, .inl ⟨hg, hop⟩, k⟩
theorem keep_consm {i b : Nat} {x : Obj} (h : (b, x) ∈ H.flatten) (ht : ∀ p ∈ T, p.2 ∈ H.flatten) : ∀ p ∈ ((i, (b, x)) :: T), p.2 ∈ H.flatten := by
  intro p hp
  rcases List.mem_cons.1 hp with rfl | hp
  · exact h
  · exact ht p hp
end
theorem does_flat {P : Program} {f : FuncId} {args : Array Value} {H H' : Hp} {Q : Value → Hp → Prop} (hf : H'.flatten = H.flatten) (h : Does P f args H Q) : Does P f args H' Q := fun u R w hs => h u R w (hs.sub ⟨[], by simp [hf]⟩)
theorem does_uniq {P : Program} {f : FuncId} {args : Array Value} {M : List Chunk} {Q : Value → Hp → Prop} (h : (∀ g o1 o2, (g, o1) ∈ M → (g, o2) ∈ M → o1 = o2) → Does P f args [M] Q) : Does P f args [M] Q := fun u R w hs => h (fun g o1 o2 h1 h2 => by
  have a := hs.get (g, o1) (by simp [h1])
  have b := hs.get (g, o2) (by simp [h2])
  rw [a] at b
  exact Option.some.inj b) u R w hs
theorem subV_of {b o n cap : Nat} {cur : Array Value} {T : TypeId} {z : Nat × Nat} {ys : List Value} (hn : ys.length = n) (hp : 0 < n) (h : CellsIn cur o ys) : SubV (.slice (some ⟨b, o, none⟩) n cap) ys [(b, .cells cur T z)] := by
  subst hn
  exact .inr ⟨hp, b, o, cap, cur, T, z, rfl, rfl, h⟩
/-- Elements that stand one behind another. -/
theorem cells_flat {α : Type} (f : α → List Value) (sz : Nat) (hf : ∀ a, (f a).length = sz) (cur : Array Value) : ∀ (l : List α) (off : Nat), (∀ (i : Nat) (a : α), l[i]? = some a → off + i * sz + sz ≤ cur.size ∧ (cur.extract (off + i * sz) (off + i * sz + sz)).toList = f a) → CellsIn cur off (l.flatMap f)
  | [], off, _ => by simp [CellsIn]
  | a :: l, off, h => by
    obtain ⟨h1, h2⟩ := h 0 a rfl
    have ih := cells_flat f sz hf cur l (off + sz) (fun i x hx => by
      have := h (i + 1) x hx
      rw [Nat.succ_mul] at this
      rw [show off + sz + i * sz = off + (i * sz + sz) by omega]
      exact this)
    rw [Nat.zero_mul, Nat.add_zero] at h1 h2
    unfold CellsIn at *
    rw [List.flatMap_cons, List.length_append, hf]
    rw [Array.toList_extract, List.extract_eq_take_drop, show off + sz - off = sz by omega] at h2
    rw [List.take_add, h2, List.drop_drop, ih]
end Gw
