/- slices.Sort on a slice of strings of the call's own. -/
import Derived.Test.YtkgmgmkbgnkdnaaGreatDoorWi2
import Derived.Test.YtkgmgmkbgnkdnaaGreatDoorMapRange
import Derived.Sort.OwnSorted

namespace Go.Proofs.YtkgmgmkbgnkdnaaGreatDoor
open Go Go.RowKit Gw Go.Sort

def sortB (xs : List ByteArray) : List ByteArray := ((xs.map fun x => x.data.toList).mergeSort fun x y => decide (x ≤ y)).map fun l => ⟨l.toArray⟩
theorem map_enc (xs : List ByteArray) : xs.map Value.string = (xs.map fun x => x.data.toList).map encStr := by
  rw [List.map_map]; rfl
theorem map_dec (ls : List (List UInt8)) : (ls.map fun l => (⟨l.toArray⟩ : ByteArray)).map Value.string = ls.map encStr := by
  rw [List.map_map]; rfl
theorem sortB_perm (xs : List ByteArray) : (sortB xs).Perm xs := by
  have h := (List.mergeSort_perm (xs.map fun x => x.data.toList) fun x y => decide (x ≤ y)).map fun l => (⟨l.toArray⟩ : ByteArray)
  rw [List.map_map] at h
  have e : xs.map ((fun l : List UInt8 => (⟨l.toArray⟩ : ByteArray)) ∘ fun x => x.data.toList) = xs := by
    conv => rhs; rw [← List.map_id xs]
    rfl
  rw [e] at h
  exact h
theorem sortB_sorted (xs : List ByteArray) : (sortB xs).Pairwise fun x y => x.data.toList ≤ y.data.toList := by
  have h := List.pairwise_mergeSort (le := fun x y : List UInt8 => decide (x ≤ y)) (fun a b c h1 h2 => by
    simp only [decide_eq_true_eq] at *; exact List.le_trans h1 h2) (fun a b => by
    simp only [Bool.or_eq_true, decide_eq_true_eq]; exact List.le_total a b) (xs.map fun x => x.data.toList)
  unfold sortB
  rw [List.pairwise_map]
  simp only [decide_eq_true_eq] at h
  exact h

def SortPost (base : Nat) (sv : Value) (xs : List ByteArray) (w : World) (e : Ending) (w' : World) : Prop :=
  e = .returned (.tuple #[]) ∧ w'.ownsRow base 9 1 sv xs.length ((sortB xs).map Value.string) ∧ w.grownBy w' sv.ownBlock
theorem sort_own (base : Nat) (sv : Value) (xs : List ByteArray) (w : World) (hown : w.ownsRow base 9 1 sv xs.length (xs.map Value.string)) (hl : xs.length < 1000000000) :
    Calls Tryz.prog 44 #[sv] w (SortPost base sv xs w) := by
  rcases hown.2 with ⟨rfl, h0⟩ | ⟨g, cap, cur, rfl, hbase, hb, h1, h2, h3, h4⟩
  · have hx : xs = [] := List.eq_nil_of_length_eq_zero h0
    subst hx
    refine (Tryz.slices_Sort_string_none none 0 w).mono ?_
    rintro e w' ⟨rfl, rfl⟩
    have e1 : sortB [] = [] := List.eq_nil_of_length_eq_zero (by rw [(sortB_perm []).length_eq]; rfl)
    exact ⟨rfl, by rw [e1]; exact hown, ⟨rfl, rfl, rfl, Nat.le_refl _, fun _ _ _ => rfl⟩⟩
  · have hH : Holds encStr w g 0 (xs.map fun x => x.data.toList).toArray := holds_of_block hb (by
      rw [List.length_map]; rw [map_enc] at h4; simpa using h4)
    have hc := Tryz.slices_Sort_string g 0 cap (xs.map fun x => x.data.toList) w hH (lt_of_get hb) (by rw [List.length_map]; omega)
    rw [List.length_map] at hc
    refine hc.mono ?_
    rintro e w' ⟨rfl, n, os, rfl⟩
    refine ⟨rfl, ?_, grownBy_sorted _⟩
    have := ownsRow_sorted (w := w) (base := base) (n := n) (e := 9) (os := os) (ss := xs.map fun x => x.data.toList) (ts := (xs.map fun x => x.data.toList).mergeSort fun x y => decide (x ≤ y)) (by simp) hbase hb (by simpa using h1) h2 h3
    rw [List.length_map] at this
    unfold sortB
    rw [map_dec]
    exact this
end Go.Proofs.YtkgmgmkbgnkdnaaGreatDoor
