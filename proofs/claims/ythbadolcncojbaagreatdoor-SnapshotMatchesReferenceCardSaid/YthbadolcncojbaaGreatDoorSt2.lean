/- Slices whose elements have several cells, and slices of integers, out of the rows' words. -/
/- The calls of the law out of the rows' words. -/
import Derived.Test.YthbadolcncojbaaGreatDoorEz
import Derived.Test.YthbadolcncojbaaGreatDoorJm6
import Derived.Test.YthbadolcncojbaaGreatDoorCr3
import Derived.Test.YthbadolcncojbaaGreatDoorSt1

namespace Go.Proofs.YthbadolcncojbaaGreatDoor
open Go.Proofs.Tryz
open Go Go.RowKit Gw
set_option linter.unusedVariables false
set_option maxRecDepth 100000
attribute [local irreducible] Gw.At Gw.Nx Gw.Ops
open Go.ChangeShapes Go.WideShapes Go.Deep
theorem glob_ne2 {W : World} {Tg Tx : TypeId} {zg zx : Nat × Nat} {pa : Addr} (h4 : W.heap[4]? = some (.cells (kTab.map u32v).toArray Tg zg)) (h0 : W.heap[0]? = some (.cells #[.iface 299 (.pointer (some pa))] Tx zx)) {g k : Nat} {cur : Array Value} {T : TypeId} {z : Nat × Nat} (hb : W.heap[g]? = some (.cells cur T z)) {y : Value} (hy : cur[k]? = some y) (ha : isArg y = true) : g ∉ [4, 0] :=
  glob_ne h4 h0 hb (o := k) (cs := [y]) (by
    unfold CellsIn
    obtain ⟨hk, rfl⟩ := Array.getElem?_eq_some_iff.1 hy
    rw [List.drop_eq_getElem_cons (by simpa using hk)]
    simp) rfl ha
theorem list_choose {α : Type} : ∀ (n : Nat) (p : Nat → α → Prop), (∀ i, i < n → ∃ o, p i o) → ∃ os : List α, os.length = n ∧ ∀ i o, os[i]? = some o → p i o
  | 0, _, _ => ⟨[], rfl, fun i o h => by cases h⟩
  | n + 1, p, h => by
    obtain ⟨os, h1, h2⟩ := list_choose n p (fun i hi => h i (by omega))
    obtain ⟨o, ho⟩ := h n (by omega)
    refine ⟨os ++ [o], by simp [h1], fun i o' hi => ?_⟩
    rw [List.getElem?_append] at hi
    split at hi
    · exact h2 i o' hi
    · rename_i hlt
      have : i = n := by
        have := (List.getElem?_eq_some_iff.1 hi).1
        simp at this; omega
      subst this
      rw [h1, Nat.sub_self] at hi
      simp only [List.getElem?_cons_zero, Option.some.injEq] at hi
      subst hi; exact ho
section
variable {H : Type} {enc : TypeId × Value → H} {P : Program} {W : World} {base : Nat} {held : Bool}
/-- A slice, its elements' cells one after another. -/
theorem open_cells {t e : TypeId} {s fuel : Nat} {cs : List Value} {x : DataW H × List MemPlace} (ht : P.underlying t = some (.slice e)) (hc : P.cellsOf e = s) (hs : 0 < s) (h : DataW.trod enc P W base (fun _ => true) held fuel t cs = some x) :
    ∃ p len cap, cs = [.slice p len cap] ∧ (len ≤ maxLen ∧ len ≤ cap) ∧ ∀ i, i < len → ∃ cs' n z, cs'.length = s ∧ DataW.trod enc P W base (fun _ => true) held n e cs' = some z ∧
      ∃ g o cur T zz, p = some ⟨g, o, none⟩ ∧ W.heap[g]? = some (.cells cur T zz) ∧ ∀ j, j < s → cur[o + i * s + j]? = cs'[j]? := by
  rcases open_slice ht h with ⟨rfl, _⟩ | ⟨a, len, cap, m, n, D, Pl, rfl, _, hl, hm, hmm, _, hel⟩
  · exact ⟨none, 0, 0, rfl, ⟨Nat.zero_le _, Nat.le_refl _⟩, fun i hi => by omega⟩
  · simp only [if_true] at hmm
    subst hmm
    refine ⟨some a, len, m, rfl, ⟨by omega, hl⟩, fun i hi => ?_⟩
    have hsp2 : a = ⟨a.block, a.off, none⟩ := by
      obtain ⟨cs0, g1, _⟩ := hel 0 (by omega)
      rw [hc] at g1
      obtain ⟨_, glen, gg⟩ := World.cells?_some g1
      have g9 := gg 0 hs
      rw [List.getElem?_eq_getElem (l := cs0) (i := 0) (by omega), Nat.zero_mul, adr0, adr0] at g9
      exact adr_spot g9
    obtain ⟨cs', h1, h2⟩ := hel i (by omega)
    rw [hc] at h1
    obtain ⟨_, hlen, hg⟩ := World.cells?_some h1
    refine ⟨cs', n, _, hlen, h2, ?_⟩
    have h9 := hg 0 hs
    rw [List.getElem?_eq_getElem (l := cs') (i := 0) (by omega), hsp2, add_addr, add_addr] at h9
    obtain ⟨cur, T, zz, hb, _⟩ := cell_heap h9
    refine ⟨a.block, a.off, cur, T, zz, by rw [← hsp2], hb, fun j hj => ?_⟩
    have h8 := hg j hj
    rw [List.getElem?_eq_getElem (l := cs') (i := j) (by omega)] at h8 ⊢
    rw [hsp2, add_addr, add_addr] at h8
    obtain ⟨cur2, T2, zz2, hb2, hc2⟩ := cell_heap h8
    rw [hb] at hb2
    injection hb2 with e
    injection e with e1 _ _
    rw [e1]; exact hc2
end
theorem cell_one {l : List Value} (h : l.length = 1) : ∃ v, l = [v] := by
  cases l with
  | nil => simp at h
  | cons a l => cases l with
    | nil => exact ⟨a, rfl⟩
    | cons b l => simp at h
theorem cInt : Tryz.prog.cellsOf 3 = 1 := by kernel_rfl
theorem cInts : Tryz.prog.cellsOf 76 = 1 := by kernel_rfl
theorem open_ints_in {H : Type} {enc : TypeId × Value → H} {W : World} {base : Nat} {held : Bool} {Tg Tx : TypeId} {zg zx : Nat × Nat} {pa : Addr} (h4 : W.heap[4]? = some (.cells (kTab.map u32v).toArray Tg zg)) (h0 : W.heap[0]? = some (.cells #[.iface 299 (.pointer (some pa))] Tx zx)) {fuel : Nat} {cs : List Value} {x : DataW H × List MemPlace} (h : DataW.trod enc Tryz.prog W base (fun _ => true) held fuel 76 cs = some x) :
    ∃ v zs, cs = [v] ∧ IntsIn (restL W [4, 0]) v zs := by
  obtain ⟨p, len, cap, rfl, hl, hel⟩ := open_cells underlying76 cInt (by decide) h
  obtain ⟨zs, h1, h2⟩ := list_choose len (fun i (z : Int) => ∃ g o cur T zz, p = some ⟨g, o, none⟩ ∧ (g, Obj.cells cur T zz) ∈ restL W [4, 0] ∧ cur[o + i]? = some (iv z)) (fun i hi => by
    obtain ⟨cs', n, z, hlen, ht, g, o, cur, T, zz, hp, hb, hc⟩ := hel i hi
    obtain ⟨y, rfl⟩ := cell_one hlen
    obtain ⟨k, hk, _⟩ := DataW.trod_int underlying3 ht
    injection hk with hk _
    subst hk
    have hc0 := hc 0 (by decide)
    rw [Nat.mul_one, Nat.add_zero, List.getElem?_cons_zero] at hc0
    exact ⟨k, g, o, cur, T, zz, hp, mem_rest hb (glob_ne2 h4 h0 hb hc0 rfl), hc0⟩)
  subst h1
  exact ⟨_, zs, rfl, p, cap, rfl, hl, h2⟩

end Go.Proofs.YthbadolcncojbaaGreatDoor


namespace Go.Proofs.YthbadolcncojbaaGreatDoor
open Go.Proofs.Tryz
open Go Go.RowKit Gw
set_option linter.unusedVariables false
set_option maxRecDepth 100000
attribute [local irreducible] Gw.At Gw.Nx Gw.Ops
open Go.ChangeShapes Go.WideShapes Go.Deep
theorem cell_five {l : List Value} (h : l.length = 5) : ∃ a b c d e, l = [a, b, c, d, e] := by
  match l, h with
  | [a, b, c, d, e], _ => exact ⟨a, b, c, d, e, rfl⟩
theorem cStep : Tryz.prog.cellsOf 78 = 5 := by kernel_rfl
theorem cStrs5 : Tryz.prog.cellsOf 43 = 1 := by kernel_rfl
theorem open_steps_in {H : Type} {enc : TypeId × Value → H} {W : World} {base : Nat} {held : Bool} {Tg Tx : TypeId} {zg zx : Nat × Nat} {pa : Addr} (h4 : W.heap[4]? = some (.cells (kTab.map u32v).toArray Tg zg)) (h0 : W.heap[0]? = some (.cells #[.iface 299 (.pointer (some pa))] Tx zx)) {fuel : Nat} {cs : List Value} {x : DataW H × List MemPlace} (h : DataW.trod enc Tryz.prog W base (fun _ => true) held fuel 70 cs = some x) :
    ∃ v os, cs = [v] ∧ StepsIn (restL W [4, 0]) v os := by
  obtain ⟨p, len, cap, rfl, hl, hel⟩ := open_cells underlying70 cStep (by decide) h
  obtain ⟨os, h1, h2⟩ := list_choose len (fun i (o : StepV) => o.ok (restL W [4, 0]) ∧ ∃ g off cur T zz, p = some ⟨g, off, none⟩ ∧ (g, Obj.cells cur T zz) ∈ restL W [4, 0] ∧ off + i * 5 + 5 ≤ cur.size ∧ cur.extract (off + i * 5) (off + i * 5 + 5) = #[.int .i64 o.kind, o.vl, .int .i64 o.n, o.vk, .int .i64 o.torn]) (fun i hi => by
    obtain ⟨cs', n, z, hlen, ht, g, o, cur, T, zz, hp, hb, hc⟩ := hel i hi
    obtain ⟨a, b, c, d, e, rfl⟩ := cell_five hlen
    obtain ⟨xs, m, _, _, _, hxl, hf⟩ := DataW.trod_struct underlying78 ht
    have f0 : DataW.trod enc Tryz.prog W base (fun _ => true) held m 3 ([a, b, c, d, e].take (Tryz.prog.cellsOf 3)) = xs[0]? := hf 0 _ rfl
    have f1 : DataW.trod enc Tryz.prog W base (fun _ => true) held m 43 ([b, c, d, e].take (Tryz.prog.cellsOf 43)) = xs[1]? := hf 1 _ rfl
    have f2 : DataW.trod enc Tryz.prog W base (fun _ => true) held m 3 ([c, d, e].take (Tryz.prog.cellsOf 3)) = xs[2]? := hf 2 _ rfl
    have f3 : DataW.trod enc Tryz.prog W base (fun _ => true) held m 76 ([d, e].take (Tryz.prog.cellsOf 76)) = xs[3]? := hf 3 _ rfl
    have f4 : DataW.trod enc Tryz.prog W base (fun _ => true) held m 3 ([e].take (Tryz.prog.cellsOf 3)) = xs[4]? := hf 4 _ rfl
    have hxl5 : xs.length = 5 := hxl
    rw [cInt, List.getElem?_eq_getElem (by omega)] at f0 f2 f4
    rw [cStrs5, List.getElem?_eq_getElem (by omega)] at f1
    rw [cInts, List.getElem?_eq_getElem (by omega)] at f3
    obtain ⟨k, hk, _, hkw⟩ := DataW.trod_int underlying3 f0
    obtain ⟨v1, ls, hv1, hs⟩ := open_strs underlying43 underlying9 cStr f1
    obtain ⟨nn, hnn, _, hnw⟩ := DataW.trod_int underlying3 f2
    obtain ⟨v3, zs, hv3, hz⟩ := open_ints_in h4 h0 f3
    obtain ⟨tt, htt, _, htw⟩ := DataW.trod_int underlying3 f4
    injection hk with hk _
    injection hv1 with hv1 _
    injection hnn with hnn _
    injection hv3 with hv3 _
    injection htt with htt _
    subst hk hv1 hnn hv3 htt
    have c0 := hc 0 (by decide)
    have c1 := hc 1 (by decide)
    have c2 := hc 2 (by decide)
    have c3 := hc 3 (by decide)
    have c4 := hc 4 (by decide)
    simp only [List.getElem?_cons_zero, List.getElem?_cons_succ, Nat.add_zero] at c0 c1 c2 c3 c4
    have hsz := (Array.getElem?_eq_some_iff.1 c4).1
    refine ⟨⟨k, b, nn, d, tt, ls, zs⟩, ⟨(bounds_i64 hkw).1, (bounds_i64 hkw).2, (bounds_i64 hnw).1, (bounds_i64 hnw).2, (bounds_i64 htw).1, (bounds_i64 htw).2, strs_in h4 h0 hs, hz⟩, g, o, cur, T, zz, hp, mem_rest hb (glob_ne2 h4 h0 hb c0 rfl), by omega, ?_⟩
    apply Array.ext
    · simp; omega
    · intro j hj hj2
      simp only [List.size_toArray, List.length_cons, List.length_nil] at hj2
      have key : ∀ (q : Nat) (y : Value), cur[o + i * 5 + q]? = some y → ∀ hq, (cur.extract (o + i * 5) (o + i * 5 + 5))[q]'hq = y := fun q y hy hq => by
        obtain ⟨g1, rfl⟩ := Array.getElem?_eq_some_iff.1 hy
        simp
      rcases (by omega : j = 0 ∨ j = 1 ∨ j = 2 ∨ j = 3 ∨ j = 4) with rfl | rfl | rfl | rfl | rfl
      · exact key 0 _ c0 hj
      · exact key 1 _ c1 hj
      · exact key 2 _ c2 hj
      · exact key 3 _ c3 hj
      · exact key 4 _ c4 hj)
  subst h1
  exact ⟨_, os, rfl, p, cap, rfl, hl.1, h2⟩

end Go.Proofs.YthbadolcncojbaaGreatDoor
