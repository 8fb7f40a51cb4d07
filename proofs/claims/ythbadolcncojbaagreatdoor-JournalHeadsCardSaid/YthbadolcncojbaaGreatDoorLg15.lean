/- Slices whose elements have several cells, and slices of integers, out of the rows' words. -/
/- The argument of JournalHeads out of the rows' words. -/
import Derived.Test.YthbadolcncojbaaGreatDoorEz
import Derived.Test.YthbadolcncojbaaGreatDoorTl2
import Derived.Test.YthbadolcncojbaaGreatDoorSn2
import Derived.Test.YthbadolcncojbaaGreatDoorEx11
import Derived.Test.YthbadolcncojbaaGreatDoorLw3
import Derived.Test.YthbadolcncojbaaGreatDoorEx13
import Derived.Shelf.Slices.In.SortNone
import Derived.Test.YthbadolcncojbaaGreatDoorLg14

namespace Go.Proofs.YthbadolcncojbaaGreatDoor
open Go.Proofs.Tryz
open Go Go.RowKit Gw
set_option linter.unusedVariables false
set_option linter.unusedSimpArgs false
set_option maxRecDepth 100000
attribute [local irreducible] Gw.At Gw.Nx Gw.Ops
open Go.ChangeShapes Go.WideShapes Go.Deep
theorem glob_ne2 {W : World} {Tg Tx : TypeId} {zg zx : Nat × Nat} {pa : Addr} (h4 : W.heap[4]? = some (.cells (kTab.map u32v).toArray Tg zg)) (h0 : W.heap[0]? = some (.cells #[.iface 299 (.pointer (some pa))] Tx zx)) {g k : Nat} {cur : Array Value} {T : TypeId} {z : Nat × Nat} (hb : W.heap[g]? = some (.cells cur T z)) {y : Value} (hy : cur[k]? = some y) (ha : isArg y = true) : g ∉ [4, 0] :=
  glob_ne h4 h0 hb (o := k) (cs := [y]) (by
    unfold CellsIn
    obtain ⟨hk, rfl⟩ := Array.getElem?_eq_some_iff.1 hy
    rw [List.drop_eq_getElem_cons (by simpa using hk)]
    simp) rfl ha
theorem list_choose {α : Type} : ∀ (n : Nat) (p : Nat → α → Prop), (∀ i, i < n → ∃ o, p i o) → ∃ os : List α, os.length = n ∧ ∀ i o, os[i]? = some o → p i o
  | 0, _, _ => ⟨[], rfl, fun i o h => by cases h⟩
  | n + 1, p, h => by
    obtain ⟨os, h1, h2⟩ := list_choose n p (fun i hi => h i (by omega))
    obtain ⟨o, ho⟩ := h n (by omega)
    refine ⟨os ++ [o], by simp [h1], fun i o' hi => ?_⟩
    rw [List.getElem?_append] at hi
    split at hi
    · exact h2 i o' hi
    · rename_i hlt
      have : i = n := by
        have := (List.getElem?_eq_some_iff.1 hi).1
        simp at this; omega
      subst this
      rw [h1, Nat.sub_self] at hi
      simp only [List.getElem?_cons_zero, Option.some.injEq] at hi
      subst hi; exact ho
section
variable {H : Type} {enc : TypeId × Value → H} {P : Program} {W : World} {base : Nat} {held : Bool}
/-- A slice, its elements' cells one after another. -/
theorem open_cells {t e : TypeId} {s fuel : Nat} {cs : List Value} {x : DataW H × List MemPlace} (ht : P.underlying t = some (.slice e)) (hc : P.cellsOf e = s) (hs : 0 < s) (h : DataW.trod enc P W base (fun _ => true) held fuel t cs = some x) :
    ∃ p len cap, cs = [.slice p len cap] ∧ (len ≤ maxLen ∧ len ≤ cap) ∧ ∀ i, i < len → ∃ cs' n z, cs'.length = s ∧ DataW.trod enc P W base (fun _ => true) held n e cs' = some z ∧
      ∃ g o cur T zz, p = some ⟨g, o, none⟩ ∧ W.heap[g]? = some (.cells cur T zz) ∧ ∀ j, j < s → cur[o + i * s + j]? = cs'[j]? := by
  rcases open_slice ht h with ⟨rfl, _⟩ | ⟨a, len, cap, m, n, D, Pl, rfl, _, hl, hm, hmm, _, hel⟩
  · exact ⟨none, 0, 0, rfl, ⟨Nat.zero_le _, Nat.le_refl _⟩, fun i hi => by omega⟩
  · simp only [if_true] at hmm
    subst hmm
    refine ⟨some a, len, m, rfl, ⟨by omega, hl⟩, fun i hi => ?_⟩
    have hsp2 : a = ⟨a.block, a.off, none⟩ := by
      obtain ⟨cs0, g1, _⟩ := hel 0 (by omega)
      rw [hc] at g1
      obtain ⟨_, glen, gg⟩ := World.cells?_some g1
      have g9 := gg 0 hs
      rw [List.getElem?_eq_getElem (l := cs0) (i := 0) (by omega), Nat.zero_mul, adr0, adr0] at g9
      exact adr_spot g9
    obtain ⟨cs', h1, h2⟩ := hel i (by omega)
    rw [hc] at h1
    obtain ⟨_, hlen, hg⟩ := World.cells?_some h1
    refine ⟨cs', n, _, hlen, h2, ?_⟩
    have h9 := hg 0 hs
    rw [List.getElem?_eq_getElem (l := cs') (i := 0) (by omega), hsp2, add_addr, add_addr] at h9
    obtain ⟨cur, T, zz, hb, _⟩ := cell_heap h9
    refine ⟨a.block, a.off, cur, T, zz, by rw [← hsp2], hb, fun j hj => ?_⟩
    have h8 := hg j hj
    rw [List.getElem?_eq_getElem (l := cs') (i := j) (by omega)] at h8 ⊢
    rw [hsp2, add_addr, add_addr] at h8
    obtain ⟨cur2, T2, zz2, hb2, hc2⟩ := cell_heap h8
    rw [hb] at hb2
    injection hb2 with e
    injection e with e1 _ _
    rw [e1]; exact hc2
end
theorem cInt : Tryz.prog.cellsOf 3 = 1 := by kernel_rfl
end Go.Proofs.YthbadolcncojbaaGreatDoor


namespace Go.Proofs.YthbadolcncojbaaGreatDoor
open Go.Proofs.Tryz
open Go Go.RowKit Gw
set_option linter.unusedVariables false
set_option maxRecDepth 100000
attribute [local irreducible] Gw.At Gw.Nx Gw.Ops
open Go.ChangeShapes Go.WideShapes Go.Deep
theorem cSix : Tryz.prog.cellsOf 87 = 6 := by kernel_rfl
theorem open_sixes_in {H : Type} {enc : TypeId × Value → H} {W : World} {base : Nat} {held : Bool} {Tg Tx : TypeId} {zg zx : Nat × Nat} {pa : Addr} (h4 : W.heap[4]? = some (.cells (kTab.map u32v).toArray Tg zg)) (h0 : W.heap[0]? = some (.cells #[.iface 299 (.pointer (some pa))] Tx zx)) {fuel : Nat} {cs : List Value} {x : DataW H × List MemPlace} (h : DataW.trod enc Tryz.prog W base (fun _ => true) held fuel 22 cs = some x) :
    ∃ v xs, cs = [v] ∧ SixIn (restL W [4, 0]) v xs := by
  obtain ⟨p, len, cap, rfl, hl, hel⟩ := open_cells underlying22 cSix (by decide) h
  obtain ⟨xs, h1, h2⟩ := list_choose len (fun i (z : List Int) => z.length = 6 ∧ (∀ n ∈ z, -9223372036854775808 ≤ n ∧ n ≤ 9223372036854775807) ∧ ∃ g o cur T zz, p = some ⟨g, o, none⟩ ∧ (g, Obj.cells cur T zz) ∈ restL W [4, 0] ∧ ∀ (j : Nat) (n : Int), z[j]? = some n → cur[o + i * 6 + j]? = some (.int .i64 n)) (fun i hi => by
    obtain ⟨cs', n, z, hlen, ht, g, o, cur, T, zz, hp, hb, hc⟩ := hel i hi
    obtain ⟨ys, m, _, _, _, hyl, hf⟩ := DataW.trod_array underlying87 ht
    obtain ⟨ns, hn1, hn2⟩ := list_choose 6 (fun j (n : Int) => (-9223372036854775808 ≤ n ∧ n ≤ 9223372036854775807) ∧ cs'[j]? = some (.int .i64 n)) (fun j hj => by
      have f := hf j hj
      rw [cInt, Nat.mul_one, List.getElem?_eq_getElem (by omega)] at f
      have hj2 : j < cs'.length := by omega
      have e : (cs'.drop j).take 1 = [cs'[j]] := by rw [List.drop_eq_getElem_cons hj2]; rfl
      rw [e] at f
      obtain ⟨k, hk, _, hkw⟩ := DataW.trod_int underlying3 f
      injection hk with hk _
      exact ⟨k, bounds_i64 hkw, by rw [List.getElem?_eq_getElem hj2, hk]⟩)
    have hat : ∀ (j : Nat) (n : Int), ns[j]? = some n → cur[o + i * 6 + j]? = some (.int .i64 n) := fun j n hj => by
      have hlt := (List.getElem?_eq_some_iff.1 hj).1
      rw [hc j (by omega)]
      exact (hn2 j n hj).2
    obtain ⟨n0, hn0⟩ : ∃ n, ns[0]? = some n := ⟨_, List.getElem?_eq_getElem (by omega)⟩
    exact ⟨ns, hn1, fun n hmem => by
      obtain ⟨j, hj⟩ := List.getElem?_of_mem hmem
      exact (hn2 j n hj).1, g, o, cur, T, zz, hp, mem_rest hb (glob_ne2 h4 h0 hb (hat 0 n0 hn0) rfl), hat⟩)
  subst h1
  exact ⟨_, xs, rfl, p, cap, rfl, hl, h2⟩
theorem heads_card (p : Option Addr) (cap : Nat) (ys : List (List Int)) (M : List Chunk) (hX : SixIn M (.slice p ys.length cap) ys) (pa : Addr) (Tx Tg : TypeId) (zx zg : Nat × Nat) : DoesR Tryz.prog 3 #[.slice p ys.length cap] [[(4, .cells (kTab.map u32v).toArray Tg zg)], [(0, .cells #[.iface 299 (.pointer (some pa))] Tx zx)], M] (.bool true) := heads_law hX pa Tx Tg zx zg

end Go.Proofs.YthbadolcncojbaaGreatDoor
