/- Walking by chunks: range over a map that is not changed meanwhile. No function of the program is named. -/
/- The keys of the store; a map that holds rows. -/
import Derived.Test.YtjeepldonhgohaaGreatDoorEz
import Derived.Test.YtjeepldonhgohaaGreatDoorEx19
import Derived.Maps.RangeRun

namespace Gw
open Go Go.RowKit
open Go.ChangeMaps
section
variable {α : Type} {κ : α → Value} {P : Program} {es : Array MapEntry} {clock : Nat} {l : List (α × Value)}
/-- An iterator that has handed out the entries at the places js. -/
structure IterM (es : Array MapEntry) (js : List Nat) (seen : Array Nat) : Prop where
  nodup : js.Nodup
  lt : ∀ j ∈ js, j < es.size
  mem : ∀ (j : Nat) (e : MapEntry), es.toList[j]? = some e → (seen.contains e.born = true ↔ j ∈ js)
  last : ∀ (j : Nat), js.getLast? = some j → ∃ e, es.toList[j]? = some e ∧ ∃ s0 : Array Nat, seen = s0.push e.born
theorem iterM_new (es : Array MapEntry) : IterM es [] #[] := ⟨by simp, by simp, by simp, by simp⟩
theorem born_inj {es : Array MapEntry} (hn : (es.toList.map (·.born)).Nodup) {i j : Nat} {a b : MapEntry} (ha : es.toList[i]? = some a) (hb : es.toList[j]? = some b) (h : a.born = b.born) : i = j := by
  have h1 : (es.toList.map (·.born))[i]? = some a.born := by rw [List.getElem?_map, ha]; rfl
  have h2 : (es.toList.map (·.born))[j]? = some b.born := by rw [List.getElem?_map, hb]; rfl
  exact (List.getElem?_inj (List.getElem?_eq_some_iff.1 h1).1 hn).1 (by rw [h1, h2, h])
theorem IterM.push (hm : MapM κ es clock l) {js : List Nat} {seen : Array Nat} (h : IterM es js seen) {j : Nat} {e : MapEntry} (he : es.toList[j]? = some e) (hj : j ∉ js) : IterM es (js ++ [j]) (seen.push e.born) := by
  refine ⟨?_, ?_, ?_, ?_⟩
  · rw [List.nodup_append]
    refine ⟨h.nodup, by simp, ?_⟩
    intro a ha b hb hab
    rw [List.mem_singleton] at hb
    subst hb hab
    exact hj ha
  · intro i hi
    rcases List.mem_append.1 hi with hi | hi
    · exact h.lt i hi
    · rw [List.mem_singleton] at hi
      subst hi
      have := (List.getElem?_eq_some_iff.1 he).1
      simpa using this
  · intro i x hx
    rw [List.mem_append, List.mem_singleton, ← h.mem i x hx, Array.contains_push]
    simp only [Bool.or_eq_true, beq_iff_eq]
    constructor
    · rintro (hb | hc)
      · first | exact .inr (born_inj hm.born hx he hb) | exact .inl hb
      · first | exact .inl hc | exact .inr (born_inj hm.born hx he hc)
    · rintro (hc | rfl)
      · first | exact .inr hc | exact .inl hc
      · rw [he] at hx
        injection hx with hx
        subst hx
        first | exact .inl rfl | exact .inr rfl
  · intro i hi
    rw [List.getLast?_append] at hi
    simp at hi
    subst hi
    exact ⟨e, he, seen, rfl⟩
/-- The pairs at the places js. -/
def pairsAt (l : List (α × Value)) (js : List Nat) : List (α × Value) := js.filterMap (fun j => l[j]?)
theorem pairsAt_snoc (l : List (α × Value)) (js : List Nat) {j : Nat} {p : α × Value} (hp : l[j]? = some p) : pairsAt l (js ++ [j]) = pairsAt l js ++ [p] := by
  unfold pairsAt
  rw [List.filterMap_append]
  simp [hp]
theorem pairsAt_range (l : List (α × Value)) : pairsAt l (List.range l.length) = l := by
  have h : ∀ n, n ≤ l.length → pairsAt l (List.range n) = l.take n := by
    intro n
    induction n with
    | zero => intro _; rfl
    | succ n ih =>
      intro hn
      obtain ⟨p, hp⟩ : ∃ p, l[n]? = some p := ⟨_, List.getElem?_eq_getElem (by omega)⟩
      rw [List.range_succ, pairsAt_snoc l _ hp, ih (by omega), List.take_add_one, hp]; rfl
  rw [h _ (Nat.le_refl _), List.take_length]
theorem IterM.done (hm : MapM κ es clock l) {js : List Nat} {seen : Array Nat} (h : IterM es js seen) (h0 : (leftOf es seen).size = 0) : (pairsAt l js).Perm l := by
  have hp : js.Perm (List.range l.length) := by
    rw [List.perm_ext_iff_of_nodup h.nodup List.nodup_range]
    intro j
    rw [List.mem_range, ← hm.size]
    constructor
    · exact h.lt j
    · intro hj
      have hj2 : j < es.toList.length := by simpa using hj
      have he : es.toList[j]? = some (es.toList[j]) := List.getElem?_eq_getElem hj2
      rw [← h.mem j _ he]
      unfold leftOf at h0
      have h1 := Array.filter_eq_empty_iff.1 (Array.eq_empty_of_size_eq_zero h0)
      have h2 := h1 (es.toList[j]) (Array.mem_toList_iff.1 (List.getElem_mem hj2))
      simpa using h2
  have := hp.filterMap (fun j => l[j]?)
  exact this.trans (by rw [show (List.range l.length).filterMap (fun j => l[j]?) = pairsAt l (List.range l.length) from rfl, pairsAt_range])
section
variable {env : Env} {d : Option Nat} {ty : TypeId} {pos : String} {af : Array Edge} {g : Option (Nat × Bool)} {t kt et : TypeId} {r b : Nat} {x : Operand} {u : World} {H R : Hp}
theorem w_rangeMap (ht : P.underlying t = some (.map kt et)) (hx : ∀ a, ev a env x = .map (some r)) (hmap : Has r (.map es clock) H) :
    OpW P u ⟨d, .range t x, ty, pos, af, g⟩ env H (fun v' H1 => ∃ b, v' = .pointer (some ⟨b, 0, none⟩) ∧ H1 = [(b, .mapIter (some r) clock #[] clock)] :: H) (fun _ _ => False) := fun a w hs K Kp hK _ => by
  have hb := hs.get _ hmap.mem
  have : (execOp (ev a env) ⟨d, .range t x, ty, pos, af, g⟩).run P w = .ok (.value (.pointer (some ⟨w.heap.size, 0, none⟩))) { w with heap := w.heap.push (.mapIter (some r) clock #[] clock) } := by
    show ((do pure (Next.value (← Instr.range t (ev a env x)))) : Sem Next).run P w = _
    rw [hx a]
    simp only [Instr.range, Sem.run_bind, run_underlying ht, Result.andThen, MapKept.run_getObj_map hb]
    rfl
  rw [this]
  exact hK _ _ _ ⟨_, rfl, rfl⟩ (hs.alloc _)
theorem sat_obj {w : World} {o : Obj} (hone : One [(b, o)] H R) (hsat : Sat u H w) (o' : Obj) : w.heap[b]? = some o ∧ Sat u ([(b, o')] :: R) (setBlock w b o') := by
  have h1 : Sat u ([(b, o)] :: R) w := hsat.perm (by simpa using hone.perm)
  have hb := h1.get (b, o) (by simp)
  have hlt : b < w.heap.size := (Array.getElem?_eq_some_iff.1 hb).1
  exact ⟨hb, h1.upd (Upd.here _) rfl rfl rfl (by simp [setBlock, hlt]) (fun j hj => by simp only [setBlock, Array.getElem?_setIfInBounds]; rw [if_neg (fun e => hj e.symm)])⟩
theorem w_nextMap (hm : MapM κ es clock l) {js : List Nat} {seen : Array Nat} (hi : IterM es js seen) (hx : ∀ a, ev a env x = .pointer (some ⟨b, 0, none⟩)) (hone : One [(b, .mapIter (some r) clock seen clock)] H R) (hmap : Has r (.map es clock) R) :
    OpW P u ⟨d, .next x false, ty, pos, af, g⟩ env H (fun v' H1 => ((pairsAt l js).Perm l ∧ v' = .tuple #[.bool false] ∧ H1 = [(b, .mapIter (some r) clock seen clock)] :: R) ∨
      ∃ j p seen', l[j]? = some p ∧ j ∉ js ∧ IterM es (js ++ [j]) seen' ∧ v' = .tuple #[.bool true, κ p.1, p.2] ∧ H1 = [(b, .mapIter (some r) clock seen' clock)] :: R) (fun _ _ => False) := fun a w hsat K Kp hK _ => by
  have h1 : Sat u ([(b, .mapIter (some r) clock seen clock)] :: R) w := hsat.perm (by simpa using hone.perm)
  have hb := h1.get (b, .mapIter (some r) clock seen clock) (by simp)
  have hr := h1.get (r, .map es clock) (by simp [hmap.mem])
  have hx2 : (execOp (ev a env) ⟨d, .next x false, ty, pos, af, g⟩) = ((do pure (Next.value (← Instr.next (.pointer (some ⟨b, 0, none⟩)) false ty))) : Sem Next) := by
    rw [← hx a]; rfl
  rw [hx2]
  rcases run_next_at (P := P) w ty b r clock clock seen es clock hb hr hm.old (Nat.le_refl _) with ⟨hz, hrun⟩ | ⟨e, he, w1, hw1, hrun⟩
  · rw [Sem.run_bind, hrun]
    exact hK _ _ _ (.inl ⟨hi.done hm hz, rfl, rfl⟩) h1
  · rw [Sem.run_bind, hrun]
    have he2 : e ∈ es.toList ∧ seen.contains e.born = false := by
      unfold leftOf at he
      simpa using he
    obtain ⟨j, hj⟩ := List.getElem?_of_mem he2.1
    obtain ⟨p, hp, hk, hv⟩ := hm.at_ hj
    have hnj : j ∉ js := fun h => by
      have := (hi.mem j e hj).2 h
      rw [he2.2] at this; cases this
    refine hK _ _ _ (.inr ⟨j, p, _, hp, hnj, hi.push hm hj hnj, by rw [hk, hv], rfl⟩) ?_
    have h2 : Sat u H w1 := by
      rcases hw1 with rfl | rfl
      · exact hsat
      · exact hsat.drew
    exact (sat_obj hone h2 _).2
theorem p_entryMap (hm : MapM κ es clock l) {js : List Nat} {seen : Array Nat} {j : Nat} {p : α × Value} (hi : IterM es (js ++ [j]) seen) (hp : l[j]? = some p) (hx : ∀ a, ev a env x = .pointer (some ⟨b, 0, none⟩)) :
    OpP P ⟨d, .entry x, ty, pos, af, g⟩ env [(b, .mapIter (some r) clock seen clock), (r, .map es clock)] (.tuple #[κ p.1, p.2]) := fun a w hs => by
  have hb := hs (b, .mapIter (some r) clock seen clock) (by simp)
  have hr := hs (r, .map es clock) (by simp)
  obtain ⟨e, he, s0, rfl⟩ := hi.last j (by simp)
  obtain ⟨p2, hp2, hk, hv⟩ := hm.at_ he
  rw [hp] at hp2
  injection hp2 with hp2
  subst hp2
  have hrun := run_entry_at (P := P) w b r clock s0 es clock e hb hr (List.mem_of_getElem? he) hm.born
  show ((do pure (Next.value (← Instr.entry (ev a env x)))) : Sem Next).run P w = _
  rw [hx a, Sem.run_bind, hrun, hk, hv]; rfl
end
end
end Gw


namespace Go.Proofs.YtjeepldonhgohaaGreatDoor
open Go.Proofs.Tryz
open Go Go.RowKit Gw
set_option linter.unusedVariables false
set_option linter.unusedSimpArgs false
set_option maxRecDepth 100000
attribute [local irreducible] Gw.At Gw.Nx Gw.Ops
def K2 (k : Int × Int) : Value := .agg #[.int .i64 k.1, .int .i64 k.2]
def KD (k : Int × Int) : Prop := (Lit.int .i64 k.1).wf = true ∧ (Lit.int .i64 k.2).wf = true
def rowV (r : RowM) : Value := .agg #[.int .i64 r.t, .int .i64 r.k, .int .i64 r.v.a, .int .i64 r.v.b, .int .i64 r.v.c]
theorem K2_inj : ∀ a b, K2 a = K2 b → a = b := by
  rintro ⟨a, b⟩ ⟨c, d⟩ h
  unfold K2 at h
  simp only [Value.agg.injEq, Array.mk.injEq, List.cons.injEq, Value.int.injEq, and_true, true_and] at h
  rw [h.1, h.2]
theorem lits_int (P : Program) (d : Nat) (a : Int) {t : TypeId} (ht : P.underlying t = some (.int .i64)) (h : (Lit.int .i64 a).wf = true) : P.keyLits (d + 1) t [.int .i64 a] = some [.int .i64 a] := by
  unfold Program.keyLits
  rw [ht]
  simp [h]
theorem idKey : KeyOk Tryz.prog 156 K2 KD where
  law := deep_law (m := 3) (by decide) (by kernel_rfl) (by kernel_rfl) (by kernel_rfl)
  key := by
    rintro ⟨a, b⟩ ⟨ha, hb⟩
    have h1 : Tryz.prog.types.size + 1 = (Tryz.prog.types.size - 1) + 1 + 1 := by
      have : 0 < Tryz.prog.types.size := of_decide_eq_true (by kernel_rfl)
      omega
    have hc : Tryz.prog.cellsOf 3 = 1 := by kernel_rfl
    have hc2 : Tryz.prog.cellsOf 156 = 2 := by kernel_rfl
    have hk : Tryz.prog.keyType 156 = true := by kernel_rfl
    have hf : (K2 (a, b)).formed Tryz.prog 156 = true := by
      unfold Value.formed K2
      rw [underlying156]
      simp [hc2]
    unfold keyOf
    rw [underlying156]
    simp only [hk, hf, Bool.and_self, if_true]
    obtain ⟨d, hd⟩ : ∃ d, Tryz.prog.types.size + 1 = d + 1 + 1 := ⟨_, h1⟩
    rw [hd]
    unfold Program.keyLits
    rw [underlying156]
    have la := lits_int Tryz.prog d a underlying3 ha
    have lb := lits_int Tryz.prog d b underlying3 hb
    simp [K2, Value.cells, hc, hc2, la, lb]
  inj := K2_inj
/-- The map holds the rows. -/
structure MapR (l : List ((Int × Int) × Value)) (rs : List RowM) : Prop where
  mem : ∀ p, p ∈ l ↔ ∃ r ∈ rs, p = ((r.t, r.k), rowV r)
  kd : ∀ r ∈ rs, KD (r.t, r.k)
theorem mapR_nil : MapR [] [] := ⟨fun p => by simp, fun r h => by cases h⟩
theorem MapR.keys {l : List ((Int × Int) × Value)} {rs : List RowM} (h : MapR l rs) : ∀ p ∈ l, KD p.1 := fun p hp => by
  obtain ⟨r, hr, rfl⟩ := (h.mem p).1 hp
  exact h.kd r hr
theorem rowV_inj {a b : RowM} (h : rowV a = rowV b) : a = b := by
  obtain ⟨t, k, ⟨x, y, z⟩⟩ := a
  obtain ⟨t', k', ⟨x', y', z'⟩⟩ := b
  unfold rowV at h
  simp only [Value.agg.injEq, Array.mk.injEq, List.cons.injEq, Value.int.injEq, and_true, true_and] at h
  obtain ⟨rfl, rfl, rfl, rfl, rfl⟩ := h
  rfl
theorem MapR.len {es : Array MapEntry} {ck : Nat} {l : List ((Int × Int) × Value)} {rs : List RowM} (hm : MapM K2 es ck l) (h : MapR l rs) (hs : SortedR rs) : l.length = rs.length := by
  have h1 : l.Nodup := by
    have := hm.keys
    rw [List.nodup_iff_pairwise_ne, List.pairwise_map] at this
    rw [List.nodup_iff_pairwise_ne]
    exact this.imp (fun hne e => hne (by rw [e]))
  have h2 : (rs.map (fun r => ((r.t, r.k), rowV r))).Nodup := by
    rw [List.nodup_iff_pairwise_ne, List.pairwise_map]
    refine hs.imp (fun {a b} hab e => ?_)
    have e2 := rowV_inj (Prod.mk.inj e).2
    subst e2
    unfold RowM.lt2 at hab
    omega
  have hp : l.Perm (rs.map (fun r => ((r.t, r.k), rowV r))) := by
    rw [List.perm_ext_iff_of_nodup h1 h2]
    intro p
    rw [h.mem p, List.mem_map]
    constructor
    · rintro ⟨r, hr, rfl⟩; exact ⟨r, hr, rfl⟩
    · rintro ⟨r, hr, rfl⟩; exact ⟨r, hr, rfl⟩
  rw [hp.length_eq, List.length_map]
theorem MapR.get {es : Array MapEntry} {ck : Nat} {l : List ((Int × Int) × Value)} {rs : List RowM} (hm : MapM K2 es ck l) (h : MapR l rs) (hs : SortedR rs) (t k : Int) :
    (mget (t, k) l).getD (rowV RowM.zero) = rowV (getL rs t k).1 ∧ (mget (t, k) l).isSome = (getL rs t k).2 := by
  cases hg : (getL rs t k).2 with
  | true =>
    obtain ⟨r, hr, hi, _, he⟩ := get_some hg
    have hin : ((t, k), rowV r) ∈ l := (h.mem _).2 ⟨r, hr, by rw [show t = r.t from hi.1.symm, show k = r.k from hi.2.symm]⟩
    rw [mget_mem hm.keys hin, he]
    exact ⟨rfl, rfl⟩
  | false =>
    have hno : ∀ r ∈ rs, ¬ r.is t k := fun r hr hi => by rw [get_true hs hr hi] at hg; cases hg
    have hn : mget (t, k) l = none := mget_none (fun p hp e => by
      obtain ⟨r, hr, rfl⟩ := (h.mem p).1 hp
      injection e with e1 e2
      exact hno r hr ⟨e1, e2⟩)
    rw [hn, get_false hno]
    exact ⟨rfl, rfl⟩
theorem MapR.put {l l' : List ((Int × Int) × Value)} {rs : List RowM} {c : Chg} (h : MapR l rs) (hs : SortedR rs) (hf : fitC rs c) (hh : c.has = true) (hk : KD (c.t, c.k)) (hp : ∀ p, p ∈ l' ↔ p = ((c.t, c.k), rowV ⟨c.t, c.k, c.n⟩) ∨ (p ∈ l ∧ p.1 ≠ (c.t, c.k))) : MapR l' (putL rs c) := by
  refine ⟨fun p => ?_, fun r hr => ?_⟩
  · rw [hp p]
    constructor
    · rintro (rfl | ⟨h1, h2⟩)
      · exact ⟨_, (mem_put hs hf _).2 (.inr ⟨hh, rfl⟩), rfl⟩
      · obtain ⟨r, hr, rfl⟩ := (h.mem p).1 h1
        exact ⟨r, (mem_put hs hf _).2 (.inl ⟨hr, fun hi => h2 (by rw [show r.t = c.t from hi.1, show r.k = c.k from hi.2])⟩), rfl⟩
    · rintro ⟨r, hr, rfl⟩
      rcases (mem_put hs hf _).1 hr with ⟨h1, h2⟩ | ⟨_, rfl⟩
      · exact .inr ⟨(h.mem _).2 ⟨r, h1, rfl⟩, fun e => h2 (by injection e with e1 e2; exact ⟨e1, e2⟩)⟩
      · exact .inl rfl
  · rcases (mem_put hs hf _).1 hr with ⟨h1, _⟩ | ⟨_, rfl⟩
    · exact h.kd r h1
    · exact hk
theorem MapR.drop {l l' : List ((Int × Int) × Value)} {rs : List RowM} {c : Chg} (h : MapR l rs) (hs : SortedR rs) (hf : fitC rs c) (hh : c.has = false) (hp : ∀ p, p ∈ l' ↔ p ∈ l ∧ p.1 ≠ (c.t, c.k)) : MapR l' (putL rs c) := by
  refine ⟨fun p => ?_, fun r hr => ?_⟩
  · rw [hp p]
    constructor
    · rintro ⟨h1, h2⟩
      obtain ⟨r, hr, rfl⟩ := (h.mem p).1 h1
      exact ⟨r, (mem_put hs hf _).2 (.inl ⟨hr, fun hi => h2 (by rw [show r.t = c.t from hi.1, show r.k = c.k from hi.2])⟩), rfl⟩
    · rintro ⟨r, hr, rfl⟩
      rcases (mem_put hs hf _).1 hr with ⟨h1, h2⟩ | ⟨h9, _⟩
      · exact ⟨(h.mem _).2 ⟨r, h1, rfl⟩, fun e => h2 (by injection e with e1 e2; exact ⟨e1, e2⟩)⟩
      · rw [hh] at h9; cases h9
  · rcases (mem_put hs hf _).1 hr with ⟨h1, _⟩ | ⟨h9, _⟩
    · exact h.kd r h1
    · rw [hh] at h9; cases h9
theorem wf_of {n : Int} (h : -9223372036854775808 ≤ n ∧ n ≤ 9223372036854775807) : (Lit.int .i64 n).wf = true := by
  simp [Lit.wf, IntKind.min, IntKind.max, IntKind.signed, IntKind.bits]; omega
theorem chg_kd {c : Chg} (h : c.ok) : KD (c.t, c.k) := by
  obtain ⟨h1, h2, _, _⟩ := h
  have hk : (0 ≤ c.t ∧ c.t ≤ 3) ∧ (1 ≤ c.k ∧ c.k ≤ 1000000) := by
    cases hh : c.had with
    | true =>
      have : c.before.ok := Classical.byContradiction (fun hn => h2 (.inl ⟨hh, hn⟩))
      rw [before_t hh] at this; exact this.2
    | false =>
      cases hs : c.has with
      | true =>
        have : c.after.ok := Classical.byContradiction (fun hn => h2 (.inr ⟨hs, hn⟩))
        rw [after_t hs] at this; exact this.2
      | false => exact absurd (.inl ⟨by rw [hh]; decide, by rw [hs]; decide⟩) h1
  exact ⟨wf_of (by show _ ≤ c.t ∧ c.t ≤ _; omega), wf_of (by show _ ≤ c.k ∧ c.k ≤ _; omega)⟩

end Go.Proofs.YtjeepldonhgohaaGreatDoor
