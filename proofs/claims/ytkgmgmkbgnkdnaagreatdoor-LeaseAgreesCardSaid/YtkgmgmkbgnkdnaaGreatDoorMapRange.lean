/- A map with string keys that is ranged over while entries are deleted; the key lists. -/
import Derived.Test.YtkgmgmkbgnkdnaaGreatDoorEz
import Derived.Test.YtkgmgmkbgnkdnaaGreatDoorBase
import Derived.Maps.RangeWalk

namespace Gw
open Go Go.RowKit
open Go.ChangeMaps (setBlock)

structure MapE (w : World) (r : Nat) (es : Array MapEntry) (clock : Nat) (l : List (ByteArray × Value)) : Prop where
  at_ : w.heap[r]? = some (.map es clock)
  pairs : es.toList.map (fun e => (e.key, e.val)) = l.map (fun p => (Value.string p.1, p.2))
  born : (es.toList.map (·.born)).Nodup
  old : ∀ e ∈ es.toList, e.born < clock
theorem MapE.is {w : World} {r : Nat} {es : Array MapEntry} {clock : Nat} {l : List (ByteArray × Value)} (h : MapE w r es clock l) : MapIs w r l := ⟨es, clock, h.at_, h.pairs, h.born, h.old⟩
theorem MapIs.e {w : World} {r : Nat} {l : List (ByteArray × Value)} (h : MapIs w r l) : ∃ es clock, MapE w r es clock l := by
  obtain ⟨es, clock, h1, h2, h3, h4⟩ := h; exact ⟨es, clock, h1, h2, h3, h4⟩
theorem MapE.keep {w w' : World} {r : Nat} {es : Array MapEntry} {clock : Nat} {l : List (ByteArray × Value)} (h : MapE w r es clock l) (hb : w'.heap[r]? = w.heap[r]?) : MapE w' r es clock l :=
  ⟨by rw [hb]; exact h.at_, h.pairs, h.born, h.old⟩
theorem MapE.mem {w : World} {r : Nat} {es : Array MapEntry} {clock : Nat} {l : List (ByteArray × Value)} (h : MapE w r es clock l) {e : MapEntry} (he : e ∈ es.toList) : ∃ p ∈ l, e.key = .string p.1 ∧ e.val = p.2 := by
  have h1 : (e.key, e.val) ∈ es.toList.map (fun e => (e.key, e.val)) := List.mem_map.2 ⟨e, he, rfl⟩
  rw [h.pairs] at h1
  obtain ⟨p, hp, e1⟩ := List.mem_map.1 h1
  simp only [Prod.mk.injEq] at e1
  exact ⟨p, hp, e1.1.symm, e1.2.symm⟩
theorem MapE.has {w : World} {r : Nat} {es : Array MapEntry} {clock : Nat} {l : List (ByteArray × Value)} (h : MapE w r es clock l) {p : ByteArray × Value} (hp : p ∈ l) : ∃ e ∈ es.toList, e.key = .string p.1 ∧ e.val = p.2 := by
  have h1 : (Value.string p.1, p.2) ∈ l.map (fun p => (Value.string p.1, p.2)) := List.mem_map.2 ⟨p, hp, rfl⟩
  rw [← h.pairs] at h1
  obtain ⟨e, he, e1⟩ := List.mem_map.1 h1
  simp only [Prod.mk.injEq] at e1
  exact ⟨e, he, e1.1, e1.2⟩

theorem run_delete_E {P : Program} {t kt et T2 : TypeId} {w : World} {r : Nat} {es : Array MapEntry} {clock : Nat} {l : List (ByteArray × Value)} (ht : P.underlying t = some (.map kt et)) (hk : P.underlying kt = some .string)
    (hm : MapE w r es clock l) (k : ByteArray) (T3 : TypeId) : ∃ es', (Builtin.delete_ #[t, T2] T3 #[.map (some r), .string k]).run P w = .ok (.tuple #[]) (setBlock w r (.map es' clock)) ∧
      MapE (setBlock w r (.map es' clock)) r es' clock (mdel k l) ∧ es'.toList.Sublist es.toList := by
  obtain ⟨hb, hl, hn, hc⟩ := hm
  have hlt := lt_of_get hb
  simp only [Builtin.delete_, List.getElem?_toArray, List.getElem?_cons_zero, List.getElem?_cons_succ, Sem.run_bind, run_underlying ht, Result.andThen, MapKept.run_getObj_map hb, checkKey_str hk, findKey_str hk w k es.toList l hl]
  rw [mdel_ix]
  cases hh : mlookIx k l 0 with
  | none =>
    refine ⟨es, ?_, ⟨hp_setBlock_same _ _ _ hlt, hl, hn, hc⟩, List.Sublist.refl _⟩
    simp only [Sem.run_bind, run_setMap hb, Result.andThen]; rfl
  | some q =>
    obtain ⟨i, u⟩ := q
    have hsub : (es.eraseIdxIfInBounds i).toList.Sublist es.toList := by
      unfold Array.eraseIdxIfInBounds
      split
      · simpa using List.eraseIdx_sublist _ _
      · exact List.Sublist.refl _
    refine ⟨es.eraseIdxIfInBounds i, ?_, ⟨hp_setBlock_same _ _ _ hlt, ?_, (hsub.map _).nodup hn, fun e he => hc e (hsub.subset he)⟩, hsub⟩
    · simp only [Sem.run_bind, run_setMap hb, Result.andThen]; rfl
    · have : (es.eraseIdxIfInBounds i).toList = es.toList.eraseIdx i := by
        unfold Array.eraseIdxIfInBounds
        split
        · simp
        · rename_i h; rw [List.eraseIdx_of_length_le (by simpa using h)]
      rw [this]
      have hmp : ∀ {α β : Type} (f : α → β) (m : List α) (n : Nat), (m.eraseIdx n).map f = (m.map f).eraseIdx n := by
        intro α β f m
        induction m with
        | nil => intro n; simp
        | cons x m ih => intro n; cases n <;> simp [ih]
      rw [hmp, hl, hmp]

theorem mem_leftOf {es : Array MapEntry} {seen : Array Nat} {e : MapEntry} : e ∈ (leftOf es seen).toList ↔ e ∈ es.toList ∧ seen.contains e.born = false := by
  unfold leftOf
  simp
theorem filter_le {α : Type} {p q : α → Bool} (h : ∀ x, p x = true → q x = true) : ∀ (l : List α), (l.filter p).length ≤ (l.filter q).length
  | [] => by simp
  | x :: l => by
    have ih := filter_le h l
    simp only [List.filter_cons]
    cases hp : p x with
    | true => simp only [h x hp, if_true, List.length_cons]; omega
    | false => cases q x <;> simp <;> omega
theorem filter_lt {α : Type} {p q : α → Bool} (h : ∀ x, p x = true → q x = true) {e : α} (hq : q e = true) (hp : p e = false) : ∀ {l : List α}, e ∈ l → (l.filter p).length < (l.filter q).length
  | [], he => by simp at he
  | x :: l, he => by
    have hle := filter_le h l
    simp only [List.filter_cons]
    rcases List.mem_cons.1 he with e1 | he
    · subst e1; rw [hq, hp]; simp; omega
    · have ih := filter_lt h hq hp he
      cases hp2 : p x with
      | true => simp only [h x hp2, if_true, List.length_cons]; omega
      | false => cases q x <;> simp <;> omega
theorem leftOf_lt {es es' : Array MapEntry} {seen : Array Nat} {e : MapEntry} (he : e ∈ (leftOf es seen).toList) (hs : es'.toList.Sublist es.toList) : (leftOf es' (seen.push e.born)).size < (leftOf es seen).size := by
  have hm := mem_leftOf.1 he
  have h1 := filter_lt (p := fun x : MapEntry => !(seen.push e.born).contains x.born) (q := fun x : MapEntry => !seen.contains x.born) (e := e)
    (fun x hx => by
      simp at hx ⊢
      exact hx.1) (by rw [hm.2]; rfl) (by simp) hm.1
  have h2 := List.Sublist.length_le (hs.filter fun x : MapEntry => !(seen.push e.born).contains x.born)
  have e1 : ∀ (es : Array MapEntry) (s : Array Nat), (leftOf es s).size = (es.toList.filter fun x => !s.contains x.born).length := by
    intro es s
    rw [← Array.length_toList]
    unfold leftOf
    simp
  rw [e1, e1]
  omega

def leftN (w : World) (r : Nat) : Nat :=
  match w.heap[r]? with
  | some (.mapIter (some bm) _ seen _) => (match w.heap[bm]? with | some (.map es _) => (leftOf es seen).size | _ => 0)
  | _ => 0
theorem leftN_eq {w : World} {r bm s c0 : Nat} {seen : Array Nat} {es : Array MapEntry} {clock : Nat} (hr : w.heap[r]? = some (.mapIter (some bm) s seen c0)) (hb : w.heap[bm]? = some (.map es clock)) :
    leftN w r = (leftOf es seen).size := by
  simp [leftN, hr, hb]

section
variable {P : Program} {ops : Array Oper} {rest : List Oper} {o : Oper} {a : Act} {Q : Exit → Act → World → Prop}
theorem wpList_delete_E (w : World) (hg : o.guard = none) (m x : Operand) (t T2 kt et : TypeId) (hop : o.op = Op.call { callee := Callee.builtin Builtin.delete, args := #[m, x], argTypes := #[t, T2] }) (ht : P.underlying t = some (.map kt et)) (hk : P.underlying kt = some .string)
    (r : Nat) (es : Array MapEntry) (clock : Nat) (l : List (ByteArray × Value)) (k : ByteArray) (hm : a.eval m = .map (some r)) (hx : a.eval x = .string k) (hmap : MapE w r es clock l)
    (hK : ∀ w1 es', Keep (fun i => i = r) w w1 → w1.heap.size = w.heap.size → MapE w1 r es' clock (mdel k l) → es'.toList.Sublist es.toList → wpList P ops Q rest (a.put o.dst (.tuple #[])) w1) : wpList P ops Q (o :: rest) a w := by
  refine wpList_plain hg fun K' hK' => ?_
  obtain ⟨es', hrun, r1, r2⟩ := run_delete_E (T2 := T2) ht hk hmap k o.type
  unfold Oper.wp
  simp [execOp, hop, resolve, invoke, builtin, hm, hx, hrun, Result.andThen]
  exact hK' _ _ (hK _ es' ((Keep.refl _ _).setBlock _ _ fun _ => rfl) (by simp [size_setBlock]) r1 r2)
theorem wpList_next_E (w : World) (hg : o.guard = none) (it : Operand) (hop : o.op = Op.next it false) (r bm since c0 : Nat) (seen : Array Nat) (es : Array MapEntry) (clock : Nat)
    (hit : a.eval it = .pointer (some ⟨r, 0, none⟩)) (hr : w.heap[r]? = some (.mapIter (some bm) since seen c0)) (hb : w.heap[bm]? = some (.map es clock)) (hold : ∀ x ∈ es.toList, x.born < since) (hsc : since ≤ c0)
    (h0 : (leftOf es seen).size = 0 → wpList P ops Q rest (a.put o.dst (.tuple #[.bool false])) w)
    (h1 : ∀ e ∈ (leftOf es seen).toList, ∀ w1, Keep (fun i => i = r) w w1 → w1.heap.size = w.heap.size → w1.heap[r]? = some (.mapIter (some bm) since (seen.push e.born) clock) →
      wpList P ops Q rest (a.put o.dst (.tuple #[.bool true, e.key, e.val])) w1) : wpList P ops Q (o :: rest) a w := by
  refine wpList_plain hg fun K' hK' => ?_
  have hlt := lt_of_get hr
  rcases run_next_at (P := P) w o.type r bm since c0 seen es clock hr hb hold hsc with ⟨hz, hrun⟩ | ⟨e, he, w1, hw1, hrun⟩
  · unfold Oper.wp
    simp [execOp, hop, hit, hrun, Result.andThen]
    exact hK' _ _ (h0 hz)
  · unfold Oper.wp
    simp [execOp, hop, hit, hrun, Result.andThen]
    refine hK' _ _ (h1 e he _ ?_ ?_ ?_)
    · refine Keep.setBlock ?_ _ _ fun _ => rfl
      rcases hw1 with rfl | rfl
      · exact Keep.refl _ _
      · exact (Keep.refl _ _).drew
    · rcases hw1 with rfl | rfl <;> simp [size_setBlock]
    · refine hp_setBlock_same _ _ _ ?_
      rcases hw1 with rfl | rfl <;> exact hlt
structure Came {β : Type} (w w1 : World) (r bm since : Nat) (seen : Array Nat) (es : Array MapEntry) (clock : Nat) (A : List (ByteArray × β)) (f : β → Value) (q : ByteArray × β) (e : MapEntry) : Prop where
  mem : q ∈ A
  left : e ∈ (leftOf es seen).toList
  key : e.key = .string q.1
  val : e.val = f q.2
  keep : Keep (fun i => i = r) w w1
  size : w1.heap.size = w.heap.size
  it : w1.heap[r]? = some (.mapIter (some bm) since (seen.push e.born) clock)
theorem wpList_next_A {β : Type} (w : World) (hg : o.guard = none) (it : Operand) (hop : o.op = Op.next it false) (r bm since c0 : Nat) (seen : Array Nat) (es : Array MapEntry) (clock : Nat) (A : List (ByteArray × β)) (f : β → Value)
    (hit : a.eval it = .pointer (some ⟨r, 0, none⟩)) (hr : w.heap[r]? = some (.mapIter (some bm) since seen c0)) (hE : MapE w bm es clock (mapv f A)) (hold : clock ≤ since) (hsc : since ≤ c0) (hne : bm ≠ r)
    (h0 : Hid ((leftOf es seen).size = 0) → wpList P ops Q rest (a.put o.dst (.tuple #[.bool false])) w)
    (h1 : ∀ (q : ByteArray × β) e w1, Hid (Came w w1 r bm since seen es clock A f q e) → (Instr.entry (.pointer (some ⟨r, 0, none⟩))).run P w1 = .ok (.tuple #[.string q.1, f q.2]) w1 →
      wpList P ops Q rest (a.put o.dst (.tuple #[.bool true, .string q.1, f q.2])) w1) : wpList P ops Q (o :: rest) a w := by
  refine wpList_next_E w hg it hop r bm since c0 seen es clock hit hr hE.at_ (fun x hx => Nat.lt_of_lt_of_le (hE.old x hx) hold) hsc h0 ?_
  intro e he w1 hK hs hr1
  obtain ⟨p, hp, hk, hv⟩ := hE.mem (mem_leftOf.1 he).1
  simp only [mapv, List.mem_map] at hp
  obtain ⟨q, hq, rfl⟩ := hp
  have hen := run_entry_at (P := P) w1 r bm since seen es clock e hr1 (hK.get hE.at_ hne) (mem_leftOf.1 he).1 hE.born
  rw [hk, hv] at hen
  rw [hk, hv]
  exact h1 q e w1 ⟨hq, he, hk, hv, hK, hs, hr1⟩ hen
theorem wpList_range_map (w : World) (hg : o.guard = none) (x : Operand) (t kt et : TypeId) (hop : o.op = Op.range t x) (ht : P.underlying t = some (.map kt et)) (r : Nat) (es : Array MapEntry) (clock : Nat)
    (hx : a.eval x = .map (some r)) (hb : w.heap[r]? = some (.map es clock))
    (hK : wpList P ops Q rest (a.put o.dst (.pointer (some ⟨w.heap.size, 0, none⟩))) (w.alloc (.mapIter (some r) clock #[] clock))) : wpList P ops Q (o :: rest) a w := by
  refine wpList_plain hg fun K' hK' => ?_
  have hrun : (Instr.range t (.map (some r))).run P w = .ok (.pointer (some ⟨w.heap.size, 0, none⟩)) (w.alloc (.mapIter (some r) clock #[] clock)) := by
    simp only [Instr.range, Sem.run_bind, run_underlying ht, Result.andThen, MapKept.run_getObj_map hb]
    rfl
  unfold Oper.wp
  simp [execOp, hop, hx, hrun, Result.andThen]
  exact hK' _ _ hK
end

theorem addr_add_zero (ad : Addr) : ad.add 0 = ad := by simp [Addr.add]
theorem wpList_append_one {P : Program} {ops : Array Oper} {rest : List Oper} {o : Oper} {a : Act} {Q : Exit → Act → World → Prop} (w : World) (hg : o.guard = none) (s x : Operand) (t : TypeId)
    (ho : o.op = .call { callee := .builtin .append, args := #[s, x], argTypes := #[t, t] })
    (base : Nat) (e : TypeId) (z : Value) (bytes : Nat) (ht : P.underlying t = some (.slice e)) (hi : (P.info? e).map (fun i => (i.zero, i.size, i.bytes)) = some (some z, 1, bytes)) (hz1 : z.cells.size = 1)
    (v : Value) (n : Nat) (xs : List Value) (hs : a.eval s = v) (hown : w.ownsRow base e 1 v n xs)
    (ad : Addr) (c : Nat) (u : Value) (hx : a.eval x = .slice (some ad) 1 c) (hu : w.cell? ad = some u) (h1 : u.oneCell' = true)
    (hn : n ≤ 1000000000) (hb : bytes ≤ 100000) (hbase : base ≤ w.heap.size)
    (hK : ∀ g cap w', base ≤ g → w'.ownsRow base e 1 (.slice (some ⟨g, 0, none⟩) (n + 1) cap) (n + 1) (xs ++ [u]) → w.grownBy w' v.ownBlock → wpList P ops Q rest (a.put o.dst (.slice (some ⟨g, 0, none⟩) (n + 1) cap)) w') : wpList P ops Q (o :: rest) a w := by
  obtain ⟨i, hi0, hz0, hsz, hby⟩ := info_parts hi
  have hmul : (n + 1) * bytes ≤ 1000000001 * 100000 := Nat.mul_le_mul (by omega) hb
  refine wpList_append_own w hg s x t ho base e i z 1 bytes ht hi0 hz0 hsz hby hz1 (by omega) v n xs hs hown ad 1 c [u] hx rfl ?_ (by simpa using h1) (by unfold maxLen; omega) (by omega) hbase ?_
  · intro j u' hj
    cases j with
    | zero => simp at hj; subst hj; rw [addr_add_zero]; exact hu
    | succ j => simp at hj
  · intro v' w' h2 h3 _
    obtain ⟨hl, h4⟩ := h2
    rcases h4 with ⟨_, h5⟩ | ⟨g, cap, cur, rfl, hbg, r⟩
    · omega
    · exact hK g cap w' hbg ⟨hl, .inr ⟨g, cap, cur, rfl, hbg, r⟩⟩ h3

theorem mdel_perm {α : Type} {k : ByteArray} {v : α} : ∀ {l : List (ByteArray × α)}, mlook k l = some v → l.Perm ((k, v) :: mdel k l)
  | [], h => by simp [mlook_nil] at h
  | q :: l, h => by
    rw [mlook_cons] at h
    simp only [mdel]
    split
    · rename_i e; simp only [e, if_true, Option.some.injEq] at h; subst h; rw [e]
    · rename_i e; simp only [e, if_false] at h
      exact ((mdel_perm h).cons q).trans (List.Perm.swap _ _ _)

theorem ownsRow_of_heap {w w' : World} {base : Nat} {e : TypeId} {size : Nat} {v : Value} {n : Nat} {xs : List Value} (h : w.ownsRow base e size v n xs) (hb : ∀ k, base ≤ k → k < w.heap.size → w'.heap[k]? = w.heap[k]?) : w'.ownsRow base e size v n xs := by
  obtain ⟨h1, h2⟩ := h
  refine ⟨h1, ?_⟩
  rcases h2 with h2 | ⟨g, cap, cur, hv, hg, hh, r⟩
  · exact Or.inl h2
  · exact Or.inr ⟨g, cap, cur, hv, hg, by rw [hb g hg (lt_of_get hh)]; exact hh, r⟩
theorem ownsRow_keep {w w' : World} {S : Nat → Prop} {base : Nat} {e : TypeId} {size : Nat} {v : Value} {n : Nat} {xs : List Value} (h : w.ownsRow base e size v n xs) (hk : Keep S w w') (hS : ∀ i, S i → i < base) : w'.ownsRow base e size v n xs :=
  ownsRow_of_heap h fun k hb hl => hk.block k hl fun hs => by have := hS k hs; omega
end Gw
