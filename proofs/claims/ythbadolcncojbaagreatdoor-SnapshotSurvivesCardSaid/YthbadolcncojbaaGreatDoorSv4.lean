/- The calls of the law out of the rows' words. -/
import Derived.Test.YthbadolcncojbaaGreatDoorSv3
import Derived.Test.YthbadolcncojbaaGreatDoorOc1

namespace Go.Proofs.YthbadolcncojbaaGreatDoor
open Go Go.RowKit Gw
set_option linter.unusedVariables false
set_option maxRecDepth 100000
attribute [local irreducible] Gw.At Gw.Nx Gw.Ops
open Go.ChangeShapes Go.WideShapes Go.Deep
theorem cell_five {l : List Value} (h : l.length = 5) : ∃ a b c d e, l = [a, b, c, d, e] := by
  match l, h with
  | [a, b, c, d, e], _ => exact ⟨a, b, c, d, e, rfl⟩
theorem cStep : Tryz.prog.cellsOf 78 = 5 := by kernel_rfl
theorem cStrs5 : Tryz.prog.cellsOf 43 = 1 := by kernel_rfl
theorem open_steps_in {H : Type} {enc : TypeId × Value → H} {W : World} {base : Nat} {held : Bool} {Tg Tx : TypeId} {zg zx : Nat × Nat} {pa : Addr} (h4 : W.heap[4]? = some (.cells (kTab.map u32v).toArray Tg zg)) (h0 : W.heap[0]? = some (.cells #[.iface 299 (.pointer (some pa))] Tx zx)) {fuel : Nat} {cs : List Value} {x : DataW H × List MemPlace} (h : DataW.trod enc Tryz.prog W base (fun _ => true) held fuel 70 cs = some x) :
    ∃ v os, cs = [v] ∧ StepsIn (restL W [4, 0]) v os := by
  obtain ⟨p, len, cap, rfl, hl, hel⟩ := open_cells Tryz.underlying70 cStep (by decide) h
  obtain ⟨os, h1, h2⟩ := list_choose len (fun i (o : StepV) => o.ok (restL W [4, 0]) ∧ ∃ g off cur T zz, p = some ⟨g, off, none⟩ ∧ (g, Obj.cells cur T zz) ∈ restL W [4, 0] ∧ off + i * 5 + 5 ≤ cur.size ∧ cur.extract (off + i * 5) (off + i * 5 + 5) = #[.int .i64 o.kind, o.vl, .int .i64 o.n, o.vk, .int .i64 o.torn]) (fun i hi => by
    obtain ⟨cs', n, z, hlen, ht, g, o, cur, T, zz, hp, hb, hc⟩ := hel i hi
    obtain ⟨a, b, c, d, e, rfl⟩ := cell_five hlen
    obtain ⟨xs, m, _, _, _, hxl, hf⟩ := DataW.trod_struct Tryz.underlying78 ht
    have f0 : DataW.trod enc Tryz.prog W base (fun _ => true) held m 3 ([a, b, c, d, e].take (Tryz.prog.cellsOf 3)) = xs[0]? := hf 0 _ rfl
    have f1 : DataW.trod enc Tryz.prog W base (fun _ => true) held m 43 ([b, c, d, e].take (Tryz.prog.cellsOf 43)) = xs[1]? := hf 1 _ rfl
    have f2 : DataW.trod enc Tryz.prog W base (fun _ => true) held m 3 ([c, d, e].take (Tryz.prog.cellsOf 3)) = xs[2]? := hf 2 _ rfl
    have f3 : DataW.trod enc Tryz.prog W base (fun _ => true) held m 76 ([d, e].take (Tryz.prog.cellsOf 76)) = xs[3]? := hf 3 _ rfl
    have f4 : DataW.trod enc Tryz.prog W base (fun _ => true) held m 3 ([e].take (Tryz.prog.cellsOf 3)) = xs[4]? := hf 4 _ rfl
    have hxl5 : xs.length = 5 := hxl
    rw [cInt, List.getElem?_eq_getElem (by omega)] at f0 f2 f4
    rw [cStrs5, List.getElem?_eq_getElem (by omega)] at f1
    rw [cInts, List.getElem?_eq_getElem (by omega)] at f3
    obtain ⟨k, hk, _, hkw⟩ := DataW.trod_int Tryz.underlying3 f0
    obtain ⟨v1, ls, hv1, hs⟩ := open_strs Tryz.underlying43 Tryz.underlying9 cStr f1
    obtain ⟨nn, hnn, _, hnw⟩ := DataW.trod_int Tryz.underlying3 f2
    obtain ⟨v3, zs, hv3, hz⟩ := open_ints_in h4 h0 f3
    obtain ⟨tt, htt, _, htw⟩ := DataW.trod_int Tryz.underlying3 f4
    injection hk with hk _
    injection hv1 with hv1 _
    injection hnn with hnn _
    injection hv3 with hv3 _
    injection htt with htt _
    subst hk hv1 hnn hv3 htt
    have c0 := hc 0 (by decide)
    have c1 := hc 1 (by decide)
    have c2 := hc 2 (by decide)
    have c3 := hc 3 (by decide)
    have c4 := hc 4 (by decide)
    simp only [List.getElem?_cons_zero, List.getElem?_cons_succ, Nat.add_zero] at c0 c1 c2 c3 c4
    have hsz := (Array.getElem?_eq_some_iff.1 c4).1
    refine ⟨⟨k, b, nn, d, tt, ls, zs⟩, ⟨(bounds_i64 hkw).1, (bounds_i64 hkw).2, (bounds_i64 hnw).1, (bounds_i64 hnw).2, (bounds_i64 htw).1, (bounds_i64 htw).2, strs_in h4 h0 hs, hz⟩, g, o, cur, T, zz, hp, mem_rest hb (glob_ne2 h4 h0 hb c0 rfl), by omega, ?_⟩
    apply Array.ext
    · simp; omega
    · intro j hj hj2
      simp only [List.size_toArray, List.length_cons, List.length_nil] at hj2
      have key : ∀ (q : Nat) (y : Value), cur[o + i * 5 + q]? = some y → ∀ hq, (cur.extract (o + i * 5) (o + i * 5 + 5))[q]'hq = y := fun q y hy hq => by
        obtain ⟨g1, rfl⟩ := Array.getElem?_eq_some_iff.1 hy
        simp
      rcases (by omega : j = 0 ∨ j = 1 ∨ j = 2 ∨ j = 3 ∨ j = 4) with rfl | rfl | rfl | rfl | rfl
      · exact key 0 _ c0 hj
      · exact key 1 _ c1 hj
      · exact key 2 _ c2 hj
      · exact key 3 _ c3 hj
      · exact key 4 _ c4 hj)
  subst h1
  exact ⟨_, os, rfl, p, cap, rfl, hl.1, h2⟩

end Go.Proofs.YthbadolcncojbaaGreatDoor
