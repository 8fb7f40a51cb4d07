/- Plain laws: a journal and its disk go together. -/
import Derived.Test.YtddblcjcodejaaaDoorLw3
namespace Go.Proofs.YtddblcjcodejaaaDoor
open Go Go.RowKit Gw
set_option linter.unusedVariables false
set_option maxRecDepth 100000
attribute [local irreducible] Gw.At Gw.Nx Gw.Ops
theorem outL_append : ∀ (a b : List (List UInt8)) (h : List UInt8), outL h (a ++ b) = outL h a ++ outL (headL h a) b
  | [], b, h => rfl
  | x :: a, b, h => by simp only [List.cons_append, outL, headL]; rw [outL_append a b]; simp
theorem headL_append : ∀ (a b : List (List UInt8)) (h : List UInt8), headL h (a ++ b) = headL (headL h a) b
  | [], b, h => rfl
  | x :: a, b, h => by simp only [List.cons_append, headL]; exact headL_append a b _
theorem splice_two (P Z : List UInt8) (x : UInt8) (t : List UInt8) (h : t.length + 1 ≤ Z.length) : splice (splice (P ++ Z) (P.length + 1) t) P.length [x] = P ++ (x :: t) ++ Z.drop (t.length + 1) := by
  obtain ⟨z, Z', rfl⟩ : ∃ z Z', Z = z :: Z' := by
    cases Z with
    | nil => simp at h
    | cons z Z' => exact ⟨z, Z', rfl⟩
  have e1 : splice (P ++ z :: Z') (P.length + 1) t = P ++ (z :: (t ++ Z'.drop t.length)) := by
    unfold splice
    have a1 : (P ++ z :: Z').take (P.length + 1) = P ++ [z] := by
      rw [List.take_append, List.take_of_length_le (by omega), show P.length + 1 - P.length = 1 by omega]; rfl
    have a2 : (P ++ z :: Z').drop (P.length + 1 + t.length) = Z'.drop t.length := by
      rw [List.drop_append, List.drop_of_length_le (by omega), show P.length + 1 + t.length - P.length = t.length + 1 by omega]; rfl
    rw [a1, a2]; simp
  rw [e1]
  unfold splice
  have a3 : (P ++ (z :: (t ++ Z'.drop t.length))).take P.length = P := List.take_left' rfl
  have a4 : (P ++ (z :: (t ++ Z'.drop t.length))).drop (P.length + 1) = t ++ Z'.drop t.length := by
    rw [List.drop_append, List.drop_of_length_le (by omega), show P.length + 1 - P.length = 1 by omega]; rfl
  rw [a3, List.length_singleton, a4]
  simp
/-- A journal and its disk, with power and nothing pending. -/
structure JD (j : JrS) (d : DiskS) : Prop where
  off : d.off = false
  left : d.left = 0
  pend : d.pend = []
  du : d.du = d.vi
  br : j.br = false
  head : j.h = headL zero32 j.rs
  sz : j.sz = (outL zero32 j.rs).length
  fit : j.sz ≤ d.vi.length
  vi : d.vi = outL zero32 j.rs ++ List.replicate (d.vi.length - j.sz) 0
  short : ∀ r ∈ j.rs, r.length ≤ 65536
theorem app_on (d : DiskS) (sz : Nat) (out : List UInt8) (h0 : d.off = false) (h1 : d.left = 0) : d.app sz out = (0, ⟨false, 0, splice (splice d.vi (sz + 1) out.tail) sz (out.take 1), splice (splice d.vi (sz + 1) out.tail) sz (out.take 1), []⟩) := by
  obtain ⟨off, left, du, vi, pend⟩ := d
  simp only at h0 h1
  subst h0 h1
  simp [DiskS.app, DiskS.write, DiskS.sync, usedOff, usedLeft]
theorem JD.append {j : JrS} {d : DiskS} (hj : JD j d) (ls : List (List UInt8)) (hl : ∀ r ∈ ls, r.length ≤ 65536) :
    JD (j.append d ls).2.1 (j.append d ls).2.2 ∧ (j.append d ls).2.2.vi.length = d.vi.length ∧
    ((d.vi.length < j.sz + (outL j.h ls).length ∧ (j.append d ls).1 = 231 ∧ (j.append d ls).2.1 = j ∧ (j.append d ls).2.2 = d) ∨
     (j.sz + (outL j.h ls).length ≤ d.vi.length ∧ (j.append d ls).1 = 0 ∧ (j.append d ls).2.1.rs = j.rs ++ ls ∧ (j.append d ls).2.1.sz = j.sz + (outL j.h ls).length)) := by
  have hany : ls.any isLong = false := by
    rw [List.any_eq_false]
    intro r hr
    have := hl r hr
    unfold isLong
    simp; omega
  unfold JrS.append
  rw [if_neg (by rw [hany, hj.br]; simp)]
  by_cases h1 : d.vi.length < j.sz + (outL j.h ls).length
  · rw [if_pos h1]
    exact ⟨hj, rfl, .inl ⟨h1, rfl, rfl, rfl⟩⟩
  rw [if_neg h1]
  by_cases h2 : outL j.h ls = []
  · rw [if_pos h2]
    have h3 : ls = [] := by
      cases ls with
      | nil => rfl
      | cons x t =>
        have := outL_two j.h (x :: t) hl
        have h5 := recS_len j.h x (hl x (by simp))
        have h6 := congrArg List.length h2
        simp only [outL, List.length_append, List.length_nil] at h6
        omega
    exact ⟨hj, rfl, .inr ⟨by omega, rfl, by rw [h3, List.append_nil], by rw [h2]; rfl⟩⟩
  rw [if_neg h2, app_on d _ _ hj.off hj.left]
  simp only [ne_eq, not_true_eq_false, if_false]
  obtain ⟨out, ho⟩ : ∃ out, out = outL j.h ls := ⟨_, rfl⟩
  rw [← ho] at h1 h2 ⊢
  obtain ⟨x, t, rfl⟩ : ∃ x t, out = x :: t := by
    cases out with
    | nil => exact absurd rfl h2
    | cons x t => exact ⟨x, t, rfl⟩
  have hv : splice (splice d.vi (j.sz + 1) (x :: t).tail) j.sz ((x :: t).take 1) = outL zero32 j.rs ++ (x :: t) ++ List.replicate (d.vi.length - (j.sz + (x :: t).length)) 0 := by
    have hz := hj.sz
    have e1 := splice_two (outL zero32 j.rs) (List.replicate (d.vi.length - j.sz) 0) x t (by rw [List.length_replicate]; simp only [List.length_cons] at h1; omega)
    rw [← hj.vi, ← hz, List.drop_replicate] at e1
    simp only [List.tail_cons, List.take_succ_cons, List.take_zero, List.length_cons]
    rw [e1]
    congr 2
    omega
  have hlen : (outL zero32 j.rs ++ (x :: t) ++ List.replicate (d.vi.length - (j.sz + (x :: t).length)) (0 : UInt8)).length = d.vi.length := by
    rw [List.length_append, List.length_append, List.length_replicate, ← hj.sz]; omega
  have hout : outL zero32 (j.rs ++ ls) = outL zero32 j.rs ++ (x :: t) := by rw [outL_append, ← hj.head, ← ho]
  refine ⟨⟨rfl, rfl, rfl, rfl, hj.br, ?_, ?_, ?_, ?_, ?_⟩, ?_, .inr ⟨by omega, by first | exact trivial | rfl, by first | exact trivial | rfl, by first | exact trivial | rfl⟩⟩
  · show headL j.h ls = headL zero32 (j.rs ++ ls)
    rw [headL_append, ← hj.head]
  · show j.sz + (x :: t).length = (outL zero32 (j.rs ++ ls)).length
    rw [hout, List.length_append, ← hj.sz]
  · show j.sz + (x :: t).length ≤ (splice (splice d.vi (j.sz + 1) (x :: t).tail) j.sz ((x :: t).take 1)).length
    rw [hv, hlen]; omega
  · show splice (splice d.vi (j.sz + 1) (x :: t).tail) j.sz ((x :: t).take 1) = outL zero32 (j.rs ++ ls) ++ List.replicate ((splice (splice d.vi (j.sz + 1) (x :: t).tail) j.sz ((x :: t).take 1)).length - (j.sz + (x :: t).length)) 0
    rw [hv, hlen, hout]
  · intro r hr
    rcases List.mem_append.1 hr with h | h
    · exact hj.short r h
    · exact hl r h
  · show (splice (splice d.vi (j.sz + 1) (x :: t).tail) j.sz ((x :: t).take 1)).length = d.vi.length
    rw [hv, hlen]

end Go.Proofs.YtddblcjcodejaaaDoor
