/- General laws on worlds, blocks and maps with string keys, over any program; no function of the program is named. -/
import Derived.Test.YtkgmgmkbgnkdnaaGreatDoorEz
import Derived.WalkKit
import Derived.WalkSpells
import Derived.WalkLawsBesides
import Derived.Maps.RangeRun
import Derived.Lib.Hide
import Derived.StillTailTactics
import Derived.Deep.QuietTactic
import Derived.BigQuiet
import Derived.Maps.OwnSet

namespace Gw
open Go Go.RowKit
open Go.ChangeMaps (setBlock)

structure Keep (S : Nat → Prop) (w w' : World) : Prop where
  os : w'.os = w.os
  tape : w'.tape = w.tape
  output : w'.output = w.output
  size : w.heap.size ≤ w'.heap.size
  block : ∀ k, k < w.heap.size → ¬ S k → w'.heap[k]? = w.heap[k]?

theorem lt_of_get {w : World} {k : Nat} {o : Obj} (h : w.heap[k]? = some o) : k < w.heap.size := by
  rcases Nat.lt_or_ge k w.heap.size with h1 | h1
  · exact h1
  · simp [Array.getElem?_eq_none h1] at h

theorem Keep.refl (S : Nat → Prop) (w : World) : Keep S w w := ⟨rfl, rfl, rfl, Nat.le_refl _, fun _ _ _ => rfl⟩
theorem Keep.trans {S T : Nat → Prop} {a b c : World} (h : Keep S a b) (k : Keep T b c) (hs : ∀ i, i < a.heap.size → T i → S i) : Keep S a c :=
  ⟨k.os.trans h.os, k.tape.trans h.tape, k.output.trans h.output, Nat.le_trans h.size k.size,
   fun i hi hn => (k.block i (Nat.lt_of_lt_of_le hi h.size) (fun ht => hn (hs i hi ht))).trans (h.block i hi hn)⟩
theorem Keep.mono {S T : Nat → Prop} {a b : World} (h : Keep S a b) (hs : ∀ i, S i → T i) : Keep T a b :=
  ⟨h.os, h.tape, h.output, h.size, fun i hi hn => h.block i hi (fun hh => hn (hs i hh))⟩
theorem Keep.get {S : Nat → Prop} {a b : World} (h : Keep S a b) {k : Nat} {o : Obj} (hk : a.heap[k]? = some o) (hn : ¬ S k) : b.heap[k]? = some o := by
  rw [h.block k (lt_of_get hk) hn]; exact hk
theorem Keep.below {w w' : World} (h : Keep (fun _ => False) w w') : Below w.heap.size w w' := ⟨h.os, h.tape, h.output, h.size, fun k hk => h.block k hk (fun x => x)⟩
theorem Keep.of_below {w w' : World} (h : Below w.heap.size w w') (S : Nat → Prop) : Keep S w w' := ⟨h.os, h.tape, h.output, h.size, fun k hk _ => h.block k hk⟩
theorem Keep.belowN {S : Nat → Prop} {w w' : World} {B : Nat} (h : Keep S w w') (hB : B ≤ w.heap.size) (hS : ∀ k, S k → B ≤ k) : Below B w w' :=
  ⟨h.os, h.tape, h.output, h.size, fun k hk => h.block k (by omega) (fun hs => by have := hS k hs; omega)⟩
theorem Keep.cell {S : Nat → Prop} {w w' : World} (h : Keep S w w') {p : Addr} {v : Value} (hc : w.cell? p = some v) (hn : ¬ S p.block) : w'.cell? p = some v := by
  have hl : p.block < w.heap.size := World.block_lt_of_cell? _ _ hc
  rw [World.cell?_of_block (w := w) (h.block p.block hl hn)]; exact hc
theorem Keep.drew {S : Nat → Prop} {a w : World} (h : Keep S a w) : Keep S a w.drew := ⟨h.os, h.tape, h.output, h.size, h.block⟩
theorem Keep.drewN {S : Nat → Prop} {a w : World} (h : Keep S a w) (n : Nat) : Keep S a (w.drewN n) := ⟨h.os, h.tape, h.output, h.size, h.block⟩
theorem Keep.alloc {S : Nat → Prop} {a w : World} (h : Keep S a w) (o : Obj) : Keep S a (w.alloc o) :=
  h.trans (T := fun _ => False) ⟨rfl, rfl, rfl, by simp, fun k hk _ => Below.heap_alloc _ _ _ hk⟩ (fun _ _ x => x.elim)
theorem Keep.setCell {S : Nat → Prop} {a w : World} (h : Keep S a w) (p : Addr) (u : Value) (hp : p.block < a.heap.size → S p.block) : Keep S a (w.setCell p u) :=
  h.trans (T := fun k => k = p.block) ⟨rfl, rfl, rfl, by simp [World.setCell], fun k _ hn => Below.heap_setCell _ _ _ _ hn⟩ (fun i hi e => by subst e; exact hp hi)
theorem hp_setBlock (w : World) (r : Nat) (o : Obj) (k : Nat) (h : k ≠ r) : (setBlock w r o).heap[k]? = w.heap[k]? := by
  simp only [setBlock, Array.getElem?_setIfInBounds]
  rw [if_neg (by omega)]
theorem hp_setBlock_same (w : World) (r : Nat) (o : Obj) (h : r < w.heap.size) : (setBlock w r o).heap[r]? = some o := by
  simp [setBlock, h]
theorem size_setBlock (w : World) (r : Nat) (o : Obj) : (setBlock w r o).heap.size = w.heap.size := by simp [setBlock]
theorem Keep.setBlock {S : Nat → Prop} {a w : World} (h : Keep S a w) (r : Nat) (o : Obj) (hp : r < a.heap.size → S r) : Keep S a (setBlock w r o) :=
  h.trans (T := fun k => k = r) ⟨rfl, rfl, rfl, by simp [size_setBlock], fun k _ hn => hp_setBlock _ _ _ _ hn⟩ (fun i hi e => by subst e; exact hp hi)
theorem Keep.grown {S : Nat → Prop} {a w w' : World} {row : Option Nat} (h : Keep S a w) (hg : w.grownBy w' row) (hr : ∀ k, row = some k → k < a.heap.size → S k) : Keep S a w' :=
  h.trans (T := fun k => row = some k) ⟨hg.os, hg.tape, hg.output, hg.size, fun k hk hn => hg.block k hk (fun e => hn e.symm)⟩ (fun i hi e => hr i e hi)

/- blocks -/
theorem hp_alloc_new (w : World) (o : Obj) : (w.alloc o).heap[w.heap.size]? = some o := by
  show (w.heap.push o)[w.heap.size]? = some o
  simp only [Array.getElem?_push_size]
theorem hp_alloc_old {w : World} {k : Nat} {o' : Obj} (o : Obj) (h : w.heap[k]? = some o') : (w.alloc o).heap[k]? = some o' := by
  rw [Below.heap_alloc w o k (lt_of_get h)]; exact h
theorem hp_setCell_same {w : World} {b i : Nat} {c : Array Value} {T : TypeId} {z : Nat × Nat} (v : Value) (h : w.heap[b]? = some (.cells c T z)) :
    (w.setCell ⟨b, i, none⟩ v).heap[b]? = some (.cells (c.setIfInBounds i v) T z) := by
  simp [World.setCell, Array.getElem?_modify, h]
theorem hp_setCell_ne {w : World} {k : Nat} {a : Addr} {o : Obj} (v : Value) (h : w.heap[k]? = some o) (hn : k ≠ a.block) : (w.setCell a v).heap[k]? = some o := by
  rw [Below.heap_setCell w a v k hn]; exact h
theorem hp_setBlock_ne {w : World} {k r : Nat} {o o' : Obj} (h : w.heap[k]? = some o) (hn : k ≠ r) : (setBlock w r o').heap[k]? = some o := by
  rw [hp_setBlock w r o' k hn]; exact h
theorem hp_drew_of {w : World} {k : Nat} {o : Obj} (h : w.heap[k]? = some o) : w.drew.heap[k]? = some o := h
theorem cell_of_block {w : World} {b i : Nat} {c : Array Value} {T : TypeId} {z : Nat × Nat} {v : Value} (h : w.heap[b]? = some (.cells c T z)) (hv : c[i]? = some v) : w.cell? ⟨b, i, none⟩ = some v := by
  simp [World.cell?, h, hv]
theorem free_of_block {w : World} {b i : Nat} {c : Array Value} {T : TypeId} (h : w.heap[b]? = some (.cells c T (0, 0))) : w.frozen? ⟨b, i, none⟩ = false := by
  simp [World.frozen?, h]

@[go_sem] theorem cell_setBlock (w : World) (r : Nat) (o : Obj) (p : Addr) (h : p.block ≠ r) : (setBlock w r o).cell? p = w.cell? p := by
  simp only [World.cell?, hp_setBlock w r o p.block h]
@[go_sem] theorem frozen_setBlock (w : World) (r : Nat) (o : Obj) (p : Addr) (h : p.block ≠ r) : (setBlock w r o).frozen? p = w.frozen? p := by
  simp only [World.frozen?, hp_setBlock w r o p.block h]

/- maps with string keys -/
def MapIs (w : World) (r : Nat) (l : List (ByteArray × Value)) : Prop :=
  ∃ (es : Array MapEntry) (clock : Nat), w.heap[r]? = some (.map es clock) ∧ es.toList.map (fun e => (e.key, e.val)) = l.map (fun p => (Value.string p.1, p.2)) ∧
    (es.toList.map (·.born)).Nodup ∧ ∀ e ∈ es.toList, e.born < clock
theorem MapIs.lt {w : World} {r : Nat} {l : List (ByteArray × Value)} (h : MapIs w r l) : r < w.heap.size := by
  obtain ⟨es, clock, h, _⟩ := h; exact lt_of_get h
theorem MapIs.keep {w w' : World} {r : Nat} {l : List (ByteArray × Value)} (h : MapIs w r l) (hb : w'.heap[r]? = w.heap[r]?) : MapIs w' r l := by
  obtain ⟨es, clock, h, h2⟩ := h; exact ⟨es, clock, by rw [hb]; exact h, h2⟩
theorem MapIs.made (w : World) : MapIs (w.alloc (.map #[] 0)) w.heap.size [] := ⟨#[], 0, hp_alloc_new _ _, by simp, by simp, by simp⟩

theorem ba_beq (a b : ByteArray) : (a == b) = decide (a = b) := by
  cases a with | mk a => cases b with | mk b =>
  show (a == b) = _
  simp only [ByteArray.mk.injEq]
  exact Bool.eq_iff_iff.2 (by simp)

def mlookIx {α : Type} (k : ByteArray) : List (ByteArray × α) → Nat → Option (Nat × α)
  | [], _ => none
  | p :: l, i => if k = p.1 then some (i, p.2) else mlookIx k l (i + 1)
theorem findNow_str (k : ByteArray) : ∀ (es : List MapEntry) (l : List (ByteArray × Value)) (i : Nat), es.map (fun e => (e.key, e.val)) = l.map (fun p => (Value.string p.1, p.2)) →
    Instr.findNow .string (.string k) es i = some (mlookIx k l i)
  | [], [], _, _ => rfl
  | [], _ :: _, _, h => by simp at h
  | _ :: _, [], _, h => by simp at h
  | e :: es, p :: l, i, h => by
    simp only [List.map_cons, List.cons.injEq, Prod.mk.injEq] at h
    obtain ⟨⟨hk, hv⟩, ht⟩ := h
    simp only [Instr.findNow, hk, Instr.sameNow, mlookIx]
    by_cases e1 : k = p.1
    · simp [e1, hv, ba_beq]
    · simp only [ba_beq, e1, decide_false, if_false]
      exact findNow_str k es l (i + 1) ht

def mlook {α : Type} (k : ByteArray) (l : List (ByteArray × α)) : Option α := (mlookIx k l 0).map (·.2)
theorem mlookIx_shift {α : Type} (k : ByteArray) : ∀ (l : List (ByteArray × α)) (i : Nat), mlookIx k l i = (mlookIx k l 0).map (fun q => (q.1 + i, q.2))
  | [], _ => rfl
  | p :: l, i => by
    simp only [mlookIx]
    by_cases e1 : k = p.1
    · simp [e1]
    · simp only [e1, if_false]
      rw [mlookIx_shift k l (i + 1), mlookIx_shift k l (0 + 1)]
      cases mlookIx k l 0 <;> simp <;> omega
theorem mlook_nil {α : Type} (k : ByteArray) : mlook k ([] : List (ByteArray × α)) = none := rfl
theorem mlook_cons {α : Type} (k : ByteArray) (p : ByteArray × α) (l : List (ByteArray × α)) : mlook k (p :: l) = if k = p.1 then some p.2 else mlook k l := by
  unfold mlook
  simp only [mlookIx]
  split
  · rfl
  · rw [mlookIx_shift]; cases mlookIx k l 0 <;> rfl

theorem checkKey_str' {P : Program} {kt : TypeId} (hk : P.underlying kt = some .string) (w : World) (k : ByteArray) (b : Bool) (n : Nat) : (Instr.checkKey b (n + 1) kt (.string k)).run P w = .ok () w := by
  simp only [Instr.checkKey, Sem.run_bind, run_underlying hk, Result.andThen]
  rfl
theorem checkKey_str {P : Program} {kt : TypeId} (hk : P.underlying kt = some .string) (w : World) (k : ByteArray) (b : Bool) : (Instr.checkKey b 10000 kt (.string k)).run P w = .ok () w := checkKey_str' hk w k b 9999

theorem findKey_str {P : Program} {kt : TypeId} (hk : P.underlying kt = some .string) (w : World) (k : ByteArray) (es : List MapEntry) (l : List (ByteArray × Value))
    (h : es.map (fun e => (e.key, e.val)) = l.map (fun p => (Value.string p.1, p.2))) : (Instr.findKey kt (.string k) es).run P w = .ok (mlookIx k l 0) w := by
  simp only [Instr.findKey, Sem.run_bind, run_underlying hk, Result.andThen, findNow_str k es l 0 h]
  rfl

theorem run_lookup_str {P : Program} {t kt et : TypeId} {w : World} {r : Nat} {l : List (ByteArray × Value)} (ht : P.underlying t = some (.map kt et)) (hk : P.underlying kt = some .string)
    {z : Value} (hz : (zeroValue et).run P w = .ok z w) (hm : MapIs w r l) (k : ByteArray) : (Instr.lookup t (.map (some r)) (.string k) false).run P w = .ok ((mlook k l).getD z) w := by
  obtain ⟨es, clock, hb, hl, _, _⟩ := hm
  simp only [Instr.lookup, Sem.run_bind, run_underlying ht, Result.andThen, MapKept.run_getObj_map hb, checkKey_str hk, Sem.run_pure, findKey_str hk w k es.toList l hl, mlook]
  cases hh : mlookIx k l 0 with
  | none => simp only [Sem.run_bind, hz, Result.andThen]; rfl
  | some q => rfl
def mput {α : Type} (k : ByteArray) (v : α) : List (ByteArray × α) → List (ByteArray × α)
  | [] => [(k, v)]
  | p :: l => if k = p.1 then (k, v) :: l else p :: mput k v l
def mdel {α : Type} (k : ByteArray) : List (ByteArray × α) → List (ByteArray × α)
  | [] => []
  | p :: l => if k = p.1 then l else p :: mdel k l
theorem mput_ix {α : Type} (k : ByteArray) (v : α) : ∀ (l : List (ByteArray × α)), mput k v l = match mlookIx k l 0 with
    | some (i, _) => l.modify i (fun _ => (k, v))
    | none => l ++ [(k, v)]
  | [] => rfl
  | p :: l => by
    simp only [mput, mlookIx]
    by_cases e1 : k = p.1
    · simp [e1]
    · simp only [e1, if_false]
      rw [mput_ix k v l, mlookIx_shift k l (0 + 1)]
      cases mlookIx k l 0 <;> simp
theorem mdel_ix {α : Type} (k : ByteArray) : ∀ (l : List (ByteArray × α)), mdel k l = match mlookIx k l 0 with
    | some (i, _) => l.eraseIdx i
    | none => l
  | [] => rfl
  | p :: l => by
    simp only [mdel, mlookIx]
    by_cases e1 : k = p.1
    · simp [e1]
    · simp only [e1, if_false]
      rw [mdel_ix k l, mlookIx_shift k l (0 + 1)]
      cases mlookIx k l 0 <;> simp
theorem mlookIx_some {α : Type} {k : ByteArray} {i : Nat} {v : α} : ∀ {l : List (ByteArray × α)}, mlookIx k l 0 = some (i, v) → l[i]? = some (k, v)
  | [], h => by simp [mlookIx] at h
  | p :: l, h => by
    simp only [mlookIx] at h
    by_cases e1 : k = p.1
    · simp only [e1, if_true, Option.some.injEq, Prod.mk.injEq] at h
      obtain ⟨rfl, rfl⟩ := h
      simp [e1]
    · simp only [e1, if_false] at h
      rw [mlookIx_shift] at h
      cases hh : mlookIx k l 0 with
      | none => simp [hh] at h
      | some q =>
        obtain ⟨j, u⟩ := q
        simp only [hh, Option.map_some, Option.some.injEq, Prod.mk.injEq] at h
        obtain ⟨rfl, rfl⟩ := h
        have := mlookIx_some (l := l) hh
        simpa using this

def mapv {α β : Type} (f : α → β) (l : List (ByteArray × α)) : List (ByteArray × β) := l.map fun p => (p.1, f p.2)
theorem mlook_mapv {α β : Type} (f : α → β) (k : ByteArray) : ∀ (l : List (ByteArray × α)), mlook k (mapv f l) = (mlook k l).map f
  | [] => rfl
  | p :: l => by
    have ih := mlook_mapv f k l
    simp only [mapv, List.map_cons, mlook_cons] at ih ⊢
    split
    · rfl
    · exact ih
theorem mput_mapv {α β : Type} (f : α → β) (k : ByteArray) (v : α) : ∀ (l : List (ByteArray × α)), mput k (f v) (mapv f l) = mapv f (mput k v l)
  | [] => rfl
  | p :: l => by
    have ih := mput_mapv f k v l
    simp only [mapv, List.map_cons, mput] at ih ⊢
    split
    · rfl
    · simp [ih]
theorem mdel_mapv {α β : Type} (f : α → β) (k : ByteArray) : ∀ (l : List (ByteArray × α)), mdel k (mapv f l) = mapv f (mdel k l)
  | [] => rfl
  | p :: l => by
    have ih := mdel_mapv f k l
    simp only [mapv, List.map_cons, mdel] at ih ⊢
    split
    · rfl
    · simp [ih]
theorem mlook_mem {α : Type} {k : ByteArray} {v : α} : ∀ {l : List (ByteArray × α)}, mlook k l = some v → (k, v) ∈ l
  | [], h => by simp [mlook_nil] at h
  | p :: l, h => by
    rw [mlook_cons] at h
    split at h
    · rename_i e; subst e; simp at h; subst h; simp
    · exact List.mem_cons_of_mem _ (mlook_mem h)
theorem mem_mput {α : Type} {k : ByteArray} {v : α} : ∀ {l : List (ByteArray × α)} {p : ByteArray × α}, p ∈ mput k v l → p = (k, v) ∨ p ∈ l
  | [], p, h => by simp [mput] at h; exact .inl h
  | q :: l, p, h => by
    simp only [mput] at h
    split at h
    · rcases List.mem_cons.1 h with h | h
      · exact .inl h
      · exact .inr (List.mem_cons_of_mem _ h)
    · rcases List.mem_cons.1 h with h | h
      · exact .inr (by simp [h])
      · rcases mem_mput h with h | h
        · exact .inl h
        · exact .inr (List.mem_cons_of_mem _ h)
theorem mdel_sublist {α : Type} (k : ByteArray) : ∀ (l : List (ByteArray × α)), (mdel k l).Sublist l
  | [] => List.Sublist.refl _
  | p :: l => by
    simp only [mdel]
    split
    · exact List.sublist_cons_self _ _
    · exact (mdel_sublist k l).cons_cons _

theorem nodup_mput_val {α β : Type} (g : α → β) {k : ByteArray} {v : α} : ∀ {l : List (ByteArray × α)}, (l.map fun p => g p.2).Nodup → (∀ p ∈ l, g p.2 ≠ g v) → ((mput k v l).map fun p => g p.2).Nodup
  | [], _, _ => by simp [mput]
  | p :: l, h, hv => by
    simp only [List.map_cons, List.nodup_cons] at h
    simp only [mput]
    split
    · simp only [List.map_cons, List.nodup_cons]
      refine ⟨?_, h.2⟩
      intro hm
      obtain ⟨q, hq, e⟩ := List.mem_map.1 hm
      exact hv q (List.mem_cons_of_mem _ hq) e
    · simp only [List.map_cons, List.nodup_cons]
      refine ⟨?_, nodup_mput_val g h.2 fun q hq => hv q (List.mem_cons_of_mem _ hq)⟩
      intro hm
      obtain ⟨q, hq, e⟩ := List.mem_map.1 hm
      rcases mem_mput hq with rfl | hq
      · exact hv p (by simp) e.symm
      · exact h.1 (List.mem_map.2 ⟨q, hq, e⟩)
theorem nodup_mput_key {α : Type} {k : ByteArray} {v : α} : ∀ {l : List (ByteArray × α)}, (l.map (·.1)).Nodup → ((mput k v l).map (·.1)).Nodup
  | [], _ => by simp [mput]
  | p :: l, h => by
    simp only [List.map_cons, List.nodup_cons] at h
    simp only [mput]
    split
    · rename_i e
      simp only [List.map_cons, List.nodup_cons]
      exact ⟨by rw [e]; exact h.1, h.2⟩
    · rename_i e
      simp only [List.map_cons, List.nodup_cons]
      refine ⟨?_, nodup_mput_key h.2⟩
      intro hm
      obtain ⟨q, hq, e1⟩ := List.mem_map.1 hm
      rcases mem_mput hq with rfl | hq
      · exact e e1
      · exact h.1 (List.mem_map.2 ⟨q, hq, e1⟩)

theorem mem_mput_ne {α : Type} {k : ByteArray} {v : α} : ∀ {l : List (ByteArray × α)} {p : ByteArray × α}, (l.map (·.1)).Nodup → p ∈ mput k v l → p = (k, v) ∨ (p ∈ l ∧ p.1 ≠ k)
  | [], p, _, h => by simp [mput] at h; exact .inl h
  | q :: l, p, hn, h => by
    simp only [List.map_cons, List.nodup_cons] at hn
    simp only [mput] at h
    split at h
    · rename_i e
      rcases List.mem_cons.1 h with h | h
      · exact .inl h
      · refine .inr ⟨List.mem_cons_of_mem _ h, ?_⟩
        intro e1
        exact hn.1 (List.mem_map.2 ⟨p, h, by rw [e1, e]⟩)
    · rename_i e
      rcases List.mem_cons.1 h with rfl | h
      · exact .inr ⟨by simp, fun e1 => e e1.symm⟩
      · rcases mem_mput_ne hn.2 h with h | h
        · exact .inl h
        · exact .inr ⟨List.mem_cons_of_mem _ h.1, h.2⟩
theorem map_mput_same {α β : Type} (g : α → β) {k : ByteArray} {v x : α} (hg : g v = g x) : ∀ {l : List (ByteArray × α)}, mlook k l = some x → (mput k v l).map (fun p => g p.2) = l.map fun p => g p.2
  | [], h => by simp [mlook_nil] at h
  | q :: l, h => by
    rw [mlook_cons] at h
    simp only [mput]
    split
    · rename_i e; simp only [e, if_true, Option.some.injEq] at h; subst h; simp [hg]
    · rename_i e; simp only [e, if_false] at h; simp [map_mput_same g hg h]
theorem mput_id {α : Type} {k : ByteArray} {v : α} : ∀ {l : List (ByteArray × α)}, mlook k l = some v → mput k v l = l
  | [], h => by simp [mlook_nil] at h
  | q :: l, h => by
    rw [mlook_cons] at h
    simp only [mput]
    split
    · rename_i e; simp only [e, if_true, Option.some.injEq] at h; subst h; rw [e]
    · rename_i e; simp only [e, if_false] at h; simp [mput_id h]
theorem mlook_of_mem {α : Type} {k : ByteArray} {v : α} : ∀ {l : List (ByteArray × α)}, (l.map (·.1)).Nodup → (k, v) ∈ l → mlook k l = some v
  | [], _, h => by simp at h
  | q :: l, hn, h => by
    simp only [List.map_cons, List.nodup_cons] at hn
    rw [mlook_cons]
    rcases List.mem_cons.1 h with rfl | h
    · simp
    · have : k ≠ q.1 := fun e => hn.1 (List.mem_map.2 ⟨_, h, e⟩)
      simp only [this, if_false]
      exact mlook_of_mem hn.2 h

theorem inj_of_nodup {α β : Type} (f : α → β) : ∀ {l : List α}, (l.map f).Nodup → ∀ a ∈ l, ∀ c ∈ l, f a = f c → a = c
  | [], _, a, ha, _, _, _ => by simp at ha
  | y :: l, hl, a, ha, c, hc, hac => by
    simp only [List.map_cons, List.nodup_cons] at hl
    rcases List.mem_cons.1 ha with ha | ha <;> rcases List.mem_cons.1 hc with hc | hc
    · rw [ha, hc]
    · exact (hl.1 (List.mem_map.2 ⟨c, hc, by rw [← hac, ha]⟩)).elim
    · exact (hl.1 (List.mem_map.2 ⟨a, ha, by rw [hac, hc]⟩)).elim
    · exact inj_of_nodup f hl.2 a ha c hc hac
theorem mdel_mem {α : Type} {k : ByteArray} : ∀ {l : List (ByteArray × α)} {p : ByteArray × α}, (l.map (·.1)).Nodup → (p ∈ mdel k l ↔ p ∈ l ∧ p.1 ≠ k)
  | [], p, _ => by simp [mdel]
  | q :: l, p, hn => by
    simp only [List.map_cons, List.nodup_cons] at hn
    simp only [mdel]
    split
    · rename_i e
      constructor
      · intro h
        exact ⟨List.mem_cons_of_mem _ h, fun e1 => hn.1 (List.mem_map.2 ⟨p, h, by rw [e1, e]⟩)⟩
      · rintro ⟨h, hne⟩
        rcases List.mem_cons.1 h with rfl | h
        · exact (hne e.symm).elim
        · exact h
    · rename_i e
      rw [List.mem_cons, mdel_mem hn.2, List.mem_cons]
      constructor
      · rintro (rfl | ⟨h, hne⟩)
        · exact ⟨.inl rfl, fun e1 => e e1.symm⟩
        · exact ⟨.inr h, hne⟩
      · rintro ⟨rfl | h, hne⟩
        · exact .inl rfl
        · exact .inr ⟨h, hne⟩

theorem run_setMap {P : Program} {w : World} {r : Nat} {es : Array MapEntry} {c : Nat} (hr : w.heap[r]? = some (.map es c)) (o' : Obj) : (setObj r o').run P w = .ok () (setBlock w r o') := by
  simp [setObj, Sem.run, hr, setBlock]

theorem ents_key {es : List MapEntry} {l : List (ByteArray × Value)} (hl : es.map (fun e => (e.key, e.val)) = l.map (fun p => (Value.string p.1, p.2))) {i : Nat} {k : ByteArray} {v : Value} (h : l[i]? = some (k, v)) :
    ∃ e, es[i]? = some e ∧ e.key = .string k ∧ e.val = v := by
  have h1 : (es.map (fun e => (e.key, e.val)))[i]? = some (Value.string k, v) := by rw [hl]; simp [h]
  simp only [List.getElem?_map] at h1
  cases he : es[i]? with
  | none => simp [he] at h1
  | some e => simp [he] at h1; exact ⟨e, rfl, h1.1, h1.2⟩

theorem run_mapUpdate_str {P : Program} {t kt et : TypeId} {w : World} {r : Nat} {l : List (ByteArray × Value)} (ht : P.underlying t = some (.map kt et)) (hk : P.underlying kt = some .string)
    (hm : MapIs w r l) (k : ByteArray) (v : Value) : ∃ o, (Instr.mapUpdate t (.map (some r)) (.string k) v).run P w = .ok () (setBlock w r o) ∧ MapIs (setBlock w r o) r (mput k v l) := by
  obtain ⟨es, clock, hb, hl, hn, hc⟩ := hm
  have hlt := lt_of_get hb
  simp only [Instr.mapUpdate, Sem.run_bind, run_underlying ht, Result.andThen, MapKept.run_getObj_map hb, checkKey_str hk, findKey_str hk w k es.toList l hl]
  rw [mput_ix]
  cases hh : mlookIx k l 0 with
  | none =>
    refine ⟨_, run_setMap hb _, _, _, hp_setBlock_same _ _ _ hlt, ?_, ?_, ?_⟩
    · simp [hl]
    · simp only [Array.toList_push, List.map_append, List.map_cons, List.map_nil]
      rw [List.nodup_append]
      refine ⟨hn, by simp, ?_⟩
      intro a ha b hb' hab
      simp only [List.mem_map, List.mem_singleton] at ha hb'
      obtain ⟨e, he, rfl⟩ := ha
      have := hc e he
      omega
    · intro e he
      simp only [Array.toList_push, List.mem_append, List.mem_singleton] at he
      rcases he with he | rfl
      · have := hc e he; omega
      · simp
  | some q =>
    obtain ⟨i, u⟩ := q
    obtain ⟨e0, he0, hek, hev⟩ := ents_key hl (mlookIx_some hh)
    have he1 : es[i]? = some e0 := by simpa using he0
    have hst : (Instr.keyThatStays (((es[i]?).map (·.key)).getD (.string k)) (.string k)).run P w = .ok (.string k) w := by
      simp [Instr.keyThatStays, he1, hek, Instr.sameBits, ba_beq]
    simp only [Sem.run_bind, hst, Result.andThen]
    refine ⟨_, run_setMap hb _, _, _, hp_setBlock_same _ _ _ hlt, ?_, ?_, ?_⟩
    · rw [Array.toList_modify]
      apply List.ext_getElem?
      intro j
      have hj : (es.toList.map (fun e => (e.key, e.val)))[j]? = (l.map (fun p => (Value.string p.1, p.2)))[j]? := by rw [hl]
      simp only [List.getElem?_map, List.getElem?_modify] at hj ⊢
      by_cases hij : i = j
      · subst hij
        simp only [if_true]
        cases h1 : es.toList[i]? <;> cases h2 : l[i]? <;> simp_all
      · simp only [hij, if_false]
        simpa using hj
    · have : (es.modify i fun e => { e with key := .string k, val := v }).toList.map (·.born) = es.toList.map (·.born) := by
        rw [Array.toList_modify]
        apply List.ext_getElem?
        intro j
        simp only [List.getElem?_map, List.getElem?_modify]
        by_cases hij : i = j
        · subst hij; cases es.toList[i]? <;> simp
        · simp [hij]
      rw [this]; exact hn
    · intro e he
      rw [Array.toList_modify] at he
      obtain ⟨j, hj⟩ := List.getElem?_of_mem he
      simp only [List.getElem?_modify] at hj
      cases h1 : es.toList[j]? with
      | none => simp [h1] at hj
      | some e1 =>
        have := hc e1 (List.mem_of_getElem? h1)
        by_cases hij : i = j
        · subst hij
          simp only [h1, if_true, Option.map_eq_map, Option.map_some, Option.some.injEq] at hj
          subst hj; exact this
        · simp [h1, hij] at hj
          subst hj; exact this

theorem run_delete_str {P : Program} {t kt et T2 : TypeId} {w : World} {r : Nat} {l : List (ByteArray × Value)} (ht : P.underlying t = some (.map kt et)) (hk : P.underlying kt = some .string)
    (hm : MapIs w r l) (k : ByteArray) (T3 : TypeId) : ∃ o, (Builtin.delete_ #[t, T2] T3 #[.map (some r), .string k]).run P w = .ok (.tuple #[]) (setBlock w r o) ∧ MapIs (setBlock w r o) r (mdel k l) := by
  obtain ⟨es, clock, hb, hl, hn, hc⟩ := hm
  have hlt := lt_of_get hb
  simp only [Builtin.delete_, List.getElem?_toArray, List.getElem?_cons_zero, List.getElem?_cons_succ, Sem.run_bind, run_underlying ht, Result.andThen, MapKept.run_getObj_map hb, checkKey_str hk, findKey_str hk w k es.toList l hl]
  rw [mdel_ix]
  cases hh : mlookIx k l 0 with
  | none =>
    refine ⟨.map es clock, ?_, _, _, hp_setBlock_same _ _ _ hlt, hl, hn, hc⟩
    simp only [Sem.run_bind, run_setMap hb, Result.andThen]; rfl
  | some q =>
    obtain ⟨i, u⟩ := q
    refine ⟨.map (es.eraseIdxIfInBounds i) clock, ?_, _, _, hp_setBlock_same _ _ _ hlt, ?_, ?_, ?_⟩
    · simp only [Sem.run_bind, run_setMap hb, Result.andThen]; rfl
    · have : (es.eraseIdxIfInBounds i).toList = es.toList.eraseIdx i := by
        unfold Array.eraseIdxIfInBounds
        split
        · simp
        · rename_i h; rw [List.eraseIdx_of_length_le (by simpa using h)]
      rw [this]
      have hmp : ∀ {α β : Type} (f : α → β) (m : List α) (n : Nat), (m.eraseIdx n).map f = (m.map f).eraseIdx n := by
        intro α β f m
        induction m with
        | nil => intro n; simp
        | cons x m ih => intro n; cases n <;> simp [ih]
      rw [hmp, hl, hmp]
    · have : (es.eraseIdxIfInBounds i).toList.Sublist es.toList := by
        unfold Array.eraseIdxIfInBounds
        split
        · simpa using List.eraseIdx_sublist _ _
        · exact List.Sublist.refl _
      exact (this.map _).nodup hn
    · intro e he
      have : (es.eraseIdxIfInBounds i).toList.Sublist es.toList := by
        unfold Array.eraseIdxIfInBounds
        split
        · simpa using List.eraseIdx_sublist _ _
        · exact List.Sublist.refl _
      exact hc e (this.subset he)

theorem run_len_map {P : Program} {t kt et T3 : TypeId} {w : World} {r : Nat} {l : List (ByteArray × Value)} (ht : P.underlying t = some (.map kt et)) (hm : MapIs w r l) :
    (Builtin.len_ #[t] T3 #[.map (some r)]).run P w = .ok (.int .i64 l.length) w := by
  obtain ⟨es, clock, hb, hl, _, _⟩ := hm
  have : es.size = l.length := by
    have := congrArg List.length hl
    simpa using this
  simp [Builtin.len_, run_underlying ht, MapKept.run_getObj_map hb, Sem.run, pure, goInt, this]

/- at the operation, for the walk -/
section
variable {P : Program} {ops : Array Oper} {rest : List Oper} {o : Oper} {a : Act} {Q : Exit → Act → World → Prop}
theorem wpList_delete_str (w : World) (hg : o.guard = none) (m x : Operand) (t T2 kt et : TypeId) (hop : o.op = Op.call { callee := Callee.builtin Builtin.delete, args := #[m, x], argTypes := #[t, T2] }) (ht : P.underlying t = some (.map kt et)) (hk : P.underlying kt = some .string)
    (r : Nat) (l : List (ByteArray × Value)) (k : ByteArray) (hm : a.eval m = .map (some r)) (hx : a.eval x = .string k) (hmap : MapIs w r l)
    (hK : ∀ o', MapIs (setBlock w r o') r (mdel k l) → wpList P ops Q rest (a.put o.dst (.tuple #[])) (setBlock w r o')) : wpList P ops Q (o :: rest) a w := by
  refine wpList_plain hg fun K' hK' => ?_
  obtain ⟨o', hrun, r1⟩ := run_delete_str (T2 := T2) ht hk hmap k o.type
  unfold Oper.wp
  simp [execOp, hop, resolve, invoke, builtin, hm, hx, hrun, Result.andThen]
  exact hK' _ _ (hK o' r1)
theorem wpList_len_map (w : World) (hg : o.guard = none) (m : Operand) (t kt et : TypeId) (hop : o.op = Op.call { callee := Callee.builtin Builtin.len, args := #[m], argTypes := #[t] }) (ht : P.underlying t = some (.map kt et))
    (r : Nat) (l : List (ByteArray × Value)) (hm : a.eval m = .map (some r)) (hmap : MapIs w r l)
    (hK : wpList P ops Q rest (a.put o.dst (.int .i64 l.length)) w) : wpList P ops Q (o :: rest) a w := by
  refine wpList_plain hg fun K' hK' => ?_
  have hrun := run_len_map (P := P) (T3 := o.type) ht hmap
  unfold Oper.wp
  simp [execOp, hop, resolve, invoke, builtin, hm, hrun, Result.andThen]
  exact hK' _ _ hK
end
end Gw
