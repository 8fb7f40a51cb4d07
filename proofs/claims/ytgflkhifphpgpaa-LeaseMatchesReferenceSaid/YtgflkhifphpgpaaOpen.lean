/- What is read of arguments: slices of arrays of integers, slices of integers, slices of strings. -/
import Derived.Test.YtgflkhifphpgpaaBase
import Derived.ProofKit
import Derived.OpenShut
import Derived.ShutString
import Derived.ChangeOld
import Derived.Deep.Slices
namespace Gw
open Go Go.RowKit Go.ChangeShapes Go.WideShapes Go.Deep

def okI (c : Int) : Prop := -9223372036854775808 ≤ c ∧ c ≤ 9223372036854775807
theorem okI_wf {c : Int} (h : (Lit.int .i64 c).wf = true) : okI c := bounds_i64 h

/-- A slice of arrays of n integers that came in. -/
structure ArgN (w : World) (a : Option Addr) (g off len n : Nat) (f : Nat → Nat → Int) : Prop where
  ad : len = 0 ∨ a = some ⟨g, off, none⟩
  cell : ∀ i j, i < len → j < n → w.cell? ⟨g, off + i * n + j, none⟩ = some (.int .i64 (f i j))
  ok : ∀ i j, i < len → j < n → okI (f i j)
  low : len = 0 ∨ g < w.heap.size
theorem ArgN.below {w w' : World} {a : Option Addr} {g off len n B : Nat} {f : Nat → Nat → Int} (h : ArgN w a g off len n f) (hb : Below B w w') (hg : len = 0 ∨ g < B) : ArgN w' a g off len n f := by
  refine ⟨h.ad, fun i j hi hj => ?_, h.ok, ?_⟩
  · have hg' : g < B := hg.resolve_left (by omega)
    exact (hb.cell (p := ⟨g, _, none⟩) hg').trans (h.cell i j hi hj)
  · rcases h.low with h1 | h1
    · exact .inl h1
    · exact .inr (Nat.lt_of_lt_of_le h1 hb.size)

theorem cell_spot {w : World} {a : Addr} {v : Value} (h : w.cell? a = some v) : a = ⟨a.block, a.off, none⟩ := by
  cases a with | mk b o s =>
  cases s with
  | none => rfl
  | some s =>
    simp only [World.cell?] at h
    split at h <;> simp at h
theorem add_mk (b off i : Nat) : (⟨b, off, none⟩ : Addr).add i = ⟨b, off + i, none⟩ := by
  unfold Addr.add
  split
  · rename_i h; subst h; rfl
  · rfl

section
variable {H : Type} {enc : TypeId × Value → H} {P : Program} {w : World} {base : Nat} {spare : Nat → Bool} {held : Bool}
theorem trod_ints_row {n : Nat} {t e : TypeId} {fuel : Nat} {cs : List Value} {x : DataW H × List MemPlace} (ht : P.underlying t = some (.array n e)) (he : P.underlying e = some (.int .i64)) (hc : P.cellsOf e = 1) (hct : P.cellsOf t = n)
    (h : DataW.trod enc P w base spare held fuel t cs = some x) : cs.length = n ∧ ∃ f : Nat → Int, ∀ j, j < n → cs[j]? = some (.int .i64 (f j)) ∧ okI (f j) := by
  obtain ⟨xs, m, _, _, hl, hlx, hel⟩ := DataW.trod_array ht h
  rw [hct] at hl
  refine ⟨hl, ?_⟩
  have : ∀ j, j < n → ∃ z : Int, cs[j]? = some (.int .i64 z) ∧ okI z := by
    intro j hj
    have h1 := hel j hj
    rw [hc, Nat.mul_one, List.getElem?_eq_getElem (by omega)] at h1
    obtain ⟨z, hz, _, hw⟩ := DataW.trod_int he h1
    refine ⟨z, ?_, okI_wf hw⟩
    have h2 : ((cs.drop j).take 1)[0]? = some (.int .i64 z) := by rw [hz]; rfl
    simpa using h2
  exact choose_lt this
theorem open_arrays {n : Nat} {t e e1 : TypeId} {fuel : Nat} {a : Option Addr} {len cap : Nat} {x : DataW H × List MemPlace} (ht : P.underlying t = some (.slice e)) (he : P.underlying e = some (.array n e1)) (he1 : P.underlying e1 = some (.int .i64))
    (hc1 : P.cellsOf e1 = 1) (hc : P.cellsOf e = n) (hn : 0 < n) (h : DataW.trod enc P w base (fun _ => true) held fuel t [.slice a len cap] = some x) :
    ∃ g off f, ArgN w a g off len n f ∧ len ≤ maxLen := by
  rcases open_slice ht h with ⟨hcs, _⟩ | ⟨ad, len', cap', m, n', D, Pl, hcs, hb, hl, hm, hm2, _, hel⟩
  · simp at hcs
    obtain ⟨rfl, rfl, rfl⟩ := hcs
    exact ⟨0, 0, fun _ _ => 0, ⟨.inl rfl, fun i j hi => by omega, fun i j hi => by omega, .inl rfl⟩, by unfold maxLen; omega⟩
  · simp at hcs
    obtain ⟨rfl, rfl, rfl⟩ := hcs
    simp only [if_true] at hm2
    subst hm2
    have hel2 : ∀ i, i < len → ∃ f : Nat → Int, ∀ j, j < n → w.cell? ((ad.add (i * n)).add j) = some (.int .i64 (f j)) ∧ okI (f j) := by
      intro i hi
      obtain ⟨cs', hcs', htr⟩ := hel i (by omega)
      rw [hc] at hcs'
      obtain ⟨hl', f, hf⟩ := trod_ints_row he he1 hc1 hc htr
      refine ⟨f, fun j hj => ?_⟩
      obtain ⟨hj1, hj2⟩ := hf j hj
      exact ⟨by rw [(World.cells?_some hcs').2.2 j hj]; exact hj1, hj2⟩
    obtain ⟨f, hf⟩ := choose_lt hel2
    by_cases h0 : len = 0
    · exact ⟨0, 0, f, ⟨.inl h0, fun i j hi => by omega, fun i j hi => by omega, .inl h0⟩, by omega⟩
    · have h00 := (hf 0 (by omega) 0 hn).1
      have e0 : (ad.add (0 * n)).add 0 = ad := by simp [Addr.add]
      rw [e0] at h00
      have hsp := cell_spot h00
      refine ⟨ad.block, ad.off, f, ⟨.inr (by rw [← hsp]), fun i j hi hj => ?_, fun i j hi hj => (hf i hi j hj).2, .inr (World.block_lt_of_cell? _ _ h00)⟩, by omega⟩
      have := (hf i hi j hj).1
      rw [hsp, add_mk, add_mk] at this
      exact this
/-- A slice of integers that came in. -/
theorem open_ints1 {t e : TypeId} {fuel : Nat} {a : Option Addr} {len cap : Nat} {x : DataW H × List MemPlace} (ht : P.underlying t = some (.slice e)) (he : P.underlying e = some (.int .i64))
    (hc : P.cellsOf e = 1) (h : DataW.trod enc P w base (fun _ => true) held fuel t [.slice a len cap] = some x) : ∃ g off f, ArgN w a g off len 1 f ∧ len ≤ maxLen := by
  rcases open_ints ht he hc h with ⟨hcs, _⟩ | ⟨ad, len', cap', zs, hcs, hb, hl, hm, hz, _, hcell, hwz⟩
  · simp at hcs
    obtain ⟨rfl, rfl, rfl⟩ := hcs
    exact ⟨0, 0, fun _ _ => 0, ⟨.inl rfl, fun i j hi => by omega, fun i j hi => by omega, .inl rfl⟩, by unfold maxLen; omega⟩
  · simp at hcs
    obtain ⟨rfl, rfl, rfl⟩ := hcs
    simp only [if_true] at hz
    by_cases h0 : len = 0
    · exact ⟨0, 0, fun _ _ => 0, ⟨.inl h0, fun i j hi => by omega, fun i j hi => by omega, .inl h0⟩, by omega⟩
    · have h00 := hcell 0 (by omega)
      have e0 : ad.add 0 = ad := by simp [Addr.add]
      rw [e0] at h00
      have hsp := cell_spot h00
      refine ⟨ad.block, ad.off, fun i _ => zs.getD i 0, ⟨.inr (by rw [← hsp]), fun i j hi hj => ?_, fun i j hi hj => ?_, .inr (World.block_lt_of_cell? _ _ h00)⟩, by omega⟩
      · obtain rfl : j = 0 := by omega
        have := hcell i (by omega)
        rw [hsp, add_mk] at this
        simpa using this
      · refine okI_wf (hwz _ ?_)
        have : i < zs.length := by omega
        simp [List.getD, this]
end
end Gw
