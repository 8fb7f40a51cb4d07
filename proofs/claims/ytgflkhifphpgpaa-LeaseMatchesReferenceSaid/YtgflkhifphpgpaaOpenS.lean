/- A slice of strings that came in as an argument. -/
import Derived.Test.YtgflkhifphpgpaaOpen
import Derived.SliceStrings
namespace Gw
open Go Go.RowKit Go.ChangeShapes Go.WideShapes Go.Deep

theorem addr_add0 (ad : Addr) : ad.add 0 = ad := by simp [Addr.add]
structure ArgS (w : World) (a : Option Addr) (g off len : Nat) (f : Nat → ByteArray) : Prop where
  ad : len = 0 ∨ a = some ⟨g, off, none⟩
  cell : ∀ i, i < len → w.cell? ⟨g, off + i, none⟩ = some (.string (f i))
  low : len = 0 ∨ g < w.heap.size
theorem ArgS.below {w w' : World} {a : Option Addr} {g off len B : Nat} {f : Nat → ByteArray} (h : ArgS w a g off len f) (hb : Below B w w') (hg : len = 0 ∨ g < B) : ArgS w' a g off len f := by
  refine ⟨h.ad, fun i hi => ?_, ?_⟩
  · have hg' : g < B := hg.resolve_left (by omega)
    exact (hb.cell (p := ⟨g, _, none⟩) hg').trans (h.cell i hi)
  · rcases h.low with h1 | h1
    · exact .inl h1
    · exact .inr (Nat.lt_of_lt_of_le h1 hb.size)
section
variable {H : Type} {enc : TypeId × Value → H} {P : Program} {w : World} {base : Nat} {held : Bool}
theorem open_strs1 {t e : TypeId} {fuel : Nat} {a : Option Addr} {len cap : Nat} {x : DataW H × List MemPlace} (ht : P.underlying t = some (.slice e)) (he : P.underlying e = some .string)
    (hc : P.cellsOf e = 1) (h : DataW.trod enc P w base (fun _ => true) held fuel t [.slice a len cap] = some x) : ∃ g off f, ArgS w a g off len f ∧ len ≤ maxLen := by
  rcases open_slice ht h with ⟨hcs, _⟩ | ⟨ad, len', cap', m, n', D, Pl, hcs, hb, hl, hm, hm2, _, hel⟩
  · simp at hcs
    obtain ⟨rfl, rfl, rfl⟩ := hcs
    exact ⟨0, 0, fun _ => ⟨#[]⟩, ⟨.inl rfl, fun i hi => by omega, .inl rfl⟩, by unfold maxLen; omega⟩
  · simp at hcs
    obtain ⟨rfl, rfl, rfl⟩ := hcs
    simp only [if_true] at hm2
    subst hm2
    have hel2 : ∀ i, i < len → ∃ s : ByteArray, w.cell? (ad.add i) = some (.string s) := by
      intro i hi
      obtain ⟨cs', hcs', htr⟩ := hel i (by omega)
      rw [hc, Nat.mul_one] at hcs'
      obtain ⟨s, hs, _, _⟩ := DataW.trod_string he htr
      refine ⟨s, ?_⟩
      have := (World.cells?_some hcs').2.2 0 (by omega)
      rw [hs, addr_add0] at this
      exact this
    obtain ⟨f, hf⟩ := choose_lt hel2
    by_cases h0 : len = 0
    · exact ⟨0, 0, f, ⟨.inl h0, fun i hi => by omega, .inl h0⟩, by omega⟩
    · have h00 := hf 0 (by omega)
      rw [addr_add0] at h00
      have hsp := cell_spot h00
      refine ⟨ad.block, ad.off, f, ⟨.inr (by rw [← hsp]), fun i hi => ?_, .inr (World.block_lt_of_cell? _ _ h00)⟩, by omega⟩
      have := hf i hi
      rw [hsp, add_mk] at this
      exact this
end
end Gw
