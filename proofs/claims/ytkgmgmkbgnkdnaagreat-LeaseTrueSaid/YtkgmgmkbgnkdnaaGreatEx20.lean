/- Walking by chunks: range over a map that is not changed meanwhile. No function of the program is named. -/
import Derived.Test.YtkgmgmkbgnkdnaaGreatEz
import Derived.Test.YtkgmgmkbgnkdnaaGreatEx19
import Derived.Maps.RangeRun

namespace Gw
open Go Go.RowKit
open Go.ChangeMaps
section
variable {α : Type} {κ : α → Value} {P : Program} {es : Array MapEntry} {clock : Nat} {l : List (α × Value)}
structure IterM (es : Array MapEntry) (js : List Nat) (seen : Array Nat) : Prop where
  nodup : js.Nodup
  lt : ∀ j ∈ js, j < es.size
  mem : ∀ (j : Nat) (e : MapEntry), es.toList[j]? = some e → (seen.contains e.born = true ↔ j ∈ js)
  last : ∀ (j : Nat), js.getLast? = some j → ∃ e, es.toList[j]? = some e ∧ ∃ s0 : Array Nat, seen = s0.push e.born
theorem iterM_new (es : Array MapEntry) : IterM es [] #[] := ⟨by simp, by simp, by simp, by simp⟩
theorem born_inj {es : Array MapEntry} (hn : (es.toList.map (·.born)).Nodup) {i j : Nat} {a b : MapEntry} (ha : es.toList[i]? = some a) (hb : es.toList[j]? = some b) (h : a.born = b.born) : i = j := by
  have h1 : (es.toList.map (·.born))[i]? = some a.born := by rw [List.getElem?_map, ha]; rfl
  have h2 : (es.toList.map (·.born))[j]? = some b.born := by rw [List.getElem?_map, hb]; rfl
  exact (List.getElem?_inj (List.getElem?_eq_some_iff.1 h1).1 hn).1 (by rw [h1, h2, h])
theorem IterM.push (hm : MapM κ es clock l) {js : List Nat} {seen : Array Nat} (h : IterM es js seen) {j : Nat} {e : MapEntry} (he : es.toList[j]? = some e) (hj : j ∉ js) : IterM es (js ++ [j]) (seen.push e.born) := by
  refine ⟨?_, ?_, ?_, ?_⟩
  · rw [List.nodup_append]
    refine ⟨h.nodup, by simp, ?_⟩
    intro a ha b hb hab
    rw [List.mem_singleton] at hb
    subst hb hab
    exact hj ha
  · intro i hi
    rcases List.mem_append.1 hi with hi | hi
    · exact h.lt i hi
    · rw [List.mem_singleton] at hi
      subst hi
      have := (List.getElem?_eq_some_iff.1 he).1
      simpa using this
  · intro i x hx
    rw [List.mem_append, List.mem_singleton, ← h.mem i x hx, Array.contains_push]
    simp only [Bool.or_eq_true, beq_iff_eq]
    constructor
    · rintro (hb | hc)
      · first | exact .inr (born_inj hm.born hx he hb) | exact .inl hb
      · first | exact .inl hc | exact .inr (born_inj hm.born hx he hc)
    · rintro (hc | rfl)
      · first | exact .inr hc | exact .inl hc
      · rw [he] at hx
        injection hx with hx
        subst hx
        first | exact .inl rfl | exact .inr rfl
  · intro i hi
    rw [List.getLast?_append] at hi
    simp at hi
    subst hi
    exact ⟨e, he, seen, rfl⟩
def pairsAt (l : List (α × Value)) (js : List Nat) : List (α × Value) := js.filterMap (fun j => l[j]?)
theorem pairsAt_snoc (l : List (α × Value)) (js : List Nat) {j : Nat} {p : α × Value} (hp : l[j]? = some p) : pairsAt l (js ++ [j]) = pairsAt l js ++ [p] := by
  unfold pairsAt
  rw [List.filterMap_append]
  simp [hp]
theorem pairsAt_range (l : List (α × Value)) : pairsAt l (List.range l.length) = l := by
  have h : ∀ n, n ≤ l.length → pairsAt l (List.range n) = l.take n := by
    intro n
    induction n with
    | zero => intro _; rfl
    | succ n ih =>
      intro hn
      obtain ⟨p, hp⟩ : ∃ p, l[n]? = some p := ⟨_, List.getElem?_eq_getElem (by omega)⟩
      rw [List.range_succ, pairsAt_snoc l _ hp, ih (by omega), List.take_add_one, hp]; rfl
  rw [h _ (Nat.le_refl _), List.take_length]
theorem IterM.done (hm : MapM κ es clock l) {js : List Nat} {seen : Array Nat} (h : IterM es js seen) (h0 : (leftOf es seen).size = 0) : (pairsAt l js).Perm l := by
  have hp : js.Perm (List.range l.length) := by
    rw [List.perm_ext_iff_of_nodup h.nodup List.nodup_range]
    intro j
    rw [List.mem_range, ← hm.size]
    constructor
    · exact h.lt j
    · intro hj
      have hj2 : j < es.toList.length := by simpa using hj
      have he : es.toList[j]? = some (es.toList[j]) := List.getElem?_eq_getElem hj2
      rw [← h.mem j _ he]
      unfold leftOf at h0
      have h1 := Array.filter_eq_empty_iff.1 (Array.eq_empty_of_size_eq_zero h0)
      have h2 := h1 (es.toList[j]) (Array.mem_toList_iff.1 (List.getElem_mem hj2))
      simpa using h2
  have := hp.filterMap (fun j => l[j]?)
  exact this.trans (by rw [show (List.range l.length).filterMap (fun j => l[j]?) = pairsAt l (List.range l.length) from rfl, pairsAt_range])
section
variable {env : Env} {d : Option Nat} {ty : TypeId} {pos : String} {af : Array Edge} {g : Option (Nat × Bool)} {t kt et : TypeId} {r b : Nat} {x : Operand} {u : World} {H R : Hp}
theorem w_rangeMap (ht : P.underlying t = some (.map kt et)) (hx : ∀ a, ev a env x = .map (some r)) (hmap : Has r (.map es clock) H) :
    OpW P u ⟨d, .range t x, ty, pos, af, g⟩ env H (fun v' H1 => ∃ b, v' = .pointer (some ⟨b, 0, none⟩) ∧ H1 = [(b, .mapIter (some r) clock #[] clock)] :: H) (fun _ _ => False) := fun a w hs K Kp hK _ => by
  have hb := hs.get _ hmap.mem
  have : (execOp (ev a env) ⟨d, .range t x, ty, pos, af, g⟩).run P w = .ok (.value (.pointer (some ⟨w.heap.size, 0, none⟩))) { w with heap := w.heap.push (.mapIter (some r) clock #[] clock) } := by
    show ((do pure (Next.value (← Instr.range t (ev a env x)))) : Sem Next).run P w = _
    rw [hx a]
    simp only [Instr.range, Sem.run_bind, run_underlying ht, Result.andThen, MapKept.run_getObj_map hb]
    rfl
  rw [this]
  exact hK _ _ _ ⟨_, rfl, rfl⟩ (hs.alloc _)
theorem sat_obj {w : World} {o : Obj} (hone : One [(b, o)] H R) (hsat : Sat u H w) (o' : Obj) : w.heap[b]? = some o ∧ Sat u ([(b, o')] :: R) (setBlock w b o') := by
  have h1 : Sat u ([(b, o)] :: R) w := hsat.perm (by simpa using hone.perm)
  have hb := h1.get (b, o) (by simp)
  have hlt : b < w.heap.size := (Array.getElem?_eq_some_iff.1 hb).1
  exact ⟨hb, h1.upd (Upd.here _) rfl rfl rfl (by simp [setBlock, hlt]) (fun j hj => by simp only [setBlock, Array.getElem?_setIfInBounds]; rw [if_neg (fun e => hj e.symm)])⟩
theorem w_nextMap (hm : MapM κ es clock l) {js : List Nat} {seen : Array Nat} (hi : IterM es js seen) (hx : ∀ a, ev a env x = .pointer (some ⟨b, 0, none⟩)) (hone : One [(b, .mapIter (some r) clock seen clock)] H R) (hmap : Has r (.map es clock) R) :
    OpW P u ⟨d, .next x false, ty, pos, af, g⟩ env H (fun v' H1 => ((pairsAt l js).Perm l ∧ v' = .tuple #[.bool false] ∧ H1 = [(b, .mapIter (some r) clock seen clock)] :: R) ∨
      ∃ j p seen', l[j]? = some p ∧ j ∉ js ∧ IterM es (js ++ [j]) seen' ∧ v' = .tuple #[.bool true, κ p.1, p.2] ∧ H1 = [(b, .mapIter (some r) clock seen' clock)] :: R) (fun _ _ => False) := fun a w hsat K Kp hK _ => by
  have h1 : Sat u ([(b, .mapIter (some r) clock seen clock)] :: R) w := hsat.perm (by simpa using hone.perm)
  have hb := h1.get (b, .mapIter (some r) clock seen clock) (by simp)
  have hr := h1.get (r, .map es clock) (by simp [hmap.mem])
  have hx2 : (execOp (ev a env) ⟨d, .next x false, ty, pos, af, g⟩) = ((do pure (Next.value (← Instr.next (.pointer (some ⟨b, 0, none⟩)) false ty))) : Sem Next) := by
    rw [← hx a]; rfl
  rw [hx2]
  rcases run_next_at (P := P) w ty b r clock clock seen es clock hb hr hm.old (Nat.le_refl _) with ⟨hz, hrun⟩ | ⟨e, he, w1, hw1, hrun⟩
  · rw [Sem.run_bind, hrun]
    exact hK _ _ _ (.inl ⟨hi.done hm hz, rfl, rfl⟩) h1
  · rw [Sem.run_bind, hrun]
    have he2 : e ∈ es.toList ∧ seen.contains e.born = false := by
      unfold leftOf at he
      simpa using he
    obtain ⟨j, hj⟩ := List.getElem?_of_mem he2.1
    obtain ⟨p, hp, hk, hv⟩ := hm.at_ hj
    have hnj : j ∉ js := fun h => by
      have := (hi.mem j e hj).2 h
      rw [he2.2] at this; cases this
    refine hK _ _ _ (.inr ⟨j, p, _, hp, hnj, hi.push hm hj hnj, by rw [hk, hv], rfl⟩) ?_
    have h2 : Sat u H w1 := by
      rcases hw1 with rfl | rfl
      · exact hsat
      · exact hsat.drew
    exact (sat_obj hone h2 _).2
theorem p_entryMap (hm : MapM κ es clock l) {js : List Nat} {seen : Array Nat} {j : Nat} {p : α × Value} (hi : IterM es (js ++ [j]) seen) (hp : l[j]? = some p) (hx : ∀ a, ev a env x = .pointer (some ⟨b, 0, none⟩)) :
    OpP P ⟨d, .entry x, ty, pos, af, g⟩ env [(b, .mapIter (some r) clock seen clock), (r, .map es clock)] (.tuple #[κ p.1, p.2]) := fun a w hs => by
  have hb := hs (b, .mapIter (some r) clock seen clock) (by simp)
  have hr := hs (r, .map es clock) (by simp)
  obtain ⟨e, he, s0, rfl⟩ := hi.last j (by simp)
  obtain ⟨p2, hp2, hk, hv⟩ := hm.at_ he
  rw [hp] at hp2
  injection hp2 with hp2
  subst hp2
  have hrun := run_entry_at (P := P) w b r clock s0 es clock e hb hr (List.mem_of_getElem? he) hm.born
  show ((do pure (Next.value (← Instr.entry (ev a env x)))) : Sem Next).run P w = _
  rw [hx a, Sem.run_bind, hrun, hk, hv]; rfl
end
end
end Gw
