/- Walking by chunks: a load out of a segment in a region that draws; the same memory cut otherwise. No function of the program is named. -/
import Derived.Test.YtjeepldonhgohaaGreatDoorEx5
import Derived.Test.YtjeepldonhgohaaGreatDoorEx14
import Derived.Test.YtjeepldonhgohaaGreatDoorEx16

namespace Gw
open Go Go.RowKit
section
variable {P : Program} {ops : Array Oper} {A : List Nat} {F : Nat} {cx : Cx} {Q : Exit → Act → World → Prop} {n D : Nat} {T : List (Nat × Chunk)} {env : Env} {H : Hp}
theorem lin_rm {d : Nat} {op : Op} {ty : TypeId} {pos : String} {af : Array Edge} {v : Value} {b : Nat} {x : Obj} {D' : Nat} (i : Nat) (ho : ops[i]? = some ⟨some d, op, ty, pos, af, none⟩) (h1 : (!bit F i && !bit D i && within (A.getD i 0) D) = true) (hD : D ||| (1 <<< i) = D') (hb : (b, x) ∈ H.flatten) (hop : OpP P ⟨some d, op, ty, pos, af, none⟩ env [(b, x)] v)
    (k : Lin P ops A F cx Q n D' ((i, (b, x)) :: T) ((d, v) :: env) H) : Lin P ops A F cx Q (n + 1) D T env H := by
  simp only [Bool.and_eq_true, Bool.not_eq_true'] at h1
  subst hD
  exact .inl ⟨i, _, v, [(b, x)], ho, h1.1.2, h1.2, by simpa using hb, .inl ⟨fun _ => rfl, hop⟩, k⟩
theorem lin_rgm {d : Nat} {op : Op} {ty : TypeId} {pos : String} {af : Array Edge} {g : Nat × Bool} {v : Value} {b : Nat} {x : Obj} {D' : Nat} (i : Nat) (hg : ∀ a, wantedE ops a env (some g) = true) (ho : ops[i]? = some ⟨some d, op, ty, pos, af, some g⟩) (h1 : (!bit F i && !bit D i && within (A.getD i 0) D) = true) (hD : D ||| (1 <<< i) = D') (hb : (b, x) ∈ H.flatten) (hop : OpP P ⟨some d, op, ty, pos, af, some g⟩ env [(b, x)] v)
    (k : Lin P ops A F cx Q n D' ((i, (b, x)) :: T) ((d, v) :: env) H) : Lin P ops A F cx Q (n + 1) D T env H := by
  simp only [Bool.and_eq_true, Bool.not_eq_true'] at h1
  subst hD
  exact .inl ⟨i, _, v, [(b, x)], ho, h1.1.2, h1.2, by simpa using hb, .inl ⟨hg, hop⟩, k⟩
theorem keep_consm {i b : Nat} {x : Obj} (h : (b, x) ∈ H.flatten) (ht : ∀ p ∈ T, p.2 ∈ H.flatten) : ∀ p ∈ ((i, (b, x)) :: T), p.2 ∈ H.flatten := by
  intro p hp
  rcases List.mem_cons.1 hp with rfl | hp
  · exact h
  · exact ht p hp
end
end Gw
