/- Plain laws: load reads what Append has stored. -/
import Derived.Test.YtddblcjcodejaaaDoorPl2
namespace Go.Proofs.YtddblcjcodejaaaDoor
open Go Go.RowKit Gw
set_option linter.unusedVariables false
set_option maxRecDepth 100000
attribute [local irreducible] Gw.At Gw.Nx Gw.Ops
theorem load_out (m : Nat) : ∀ (ls : List (List UInt8)) (pre : List UInt8) (rs : List (List UInt8)) (h : List UInt8) (f : Nat), (∀ r ∈ ls, r.length ≤ 65536) → ls.length < f →
    loadL (pre ++ (outL h ls ++ List.replicate m 0)) f rs h pre.length = some (rs ++ ls, headL h ls, pre.length + (outL h ls).length)
  | [], pre, rs, h, f, _, hf => by
    obtain ⟨f', rfl⟩ : ∃ f', f = f' + 1 := ⟨f - 1, by simp at hf; omega⟩
    rw [loadL, List.getElem?_append_right (Nat.le_refl _), Nat.sub_self]
    simp only [outL, List.nil_append, headL, List.append_nil, List.length_nil, Nat.add_zero]
    cases m with
    | zero => rfl
    | succ m => simp [List.replicate_succ]
  | x :: t, pre, rs, h, f, hl, hf => by
    obtain ⟨f', rfl⟩ : ∃ f', f = f' + 1 := ⟨f - 1, by simp at hf; omega⟩
    have hx := hl x (by simp)
    have hrl := recS_len h x hx
    have ih := load_out m t (pre ++ recS h x) (rs ++ [x]) (chainS h x) f' (fun r hr => hl r (by simp [hr])) (by simp only [List.length_cons] at hf; omega)
    have e0 : pre ++ (outL h (x :: t) ++ List.replicate m 0) = (pre ++ [1]) ++ encS x ++ (chainS h x ++ (outL (chainS h x) t ++ List.replicate m 0)) := by simp [outL, recS]
    have e1 : pre ++ (outL h (x :: t) ++ List.replicate m 0) = pre ++ (recS h x ++ (outL (chainS h x) t ++ List.replicate m 0)) := by simp [outL]
    have e2 : pre ++ (outL h (x :: t) ++ List.replicate m 0) = (pre ++ recS h x) ++ (outL (chainS h x) t ++ List.replicate m 0) := by simp [outL]
    have hd := decS_enc (pre ++ [1]) (chainS h x ++ (outL (chainS h x) t ++ List.replicate m 0)) x hx
    rw [← e0, List.length_append, List.length_singleton] at hd
    have hb : (pre ++ (outL h (x :: t) ++ List.replicate m 0))[pre.length]? = some 1 := by
      rw [e1, List.getElem?_append_right (Nat.le_refl _), Nat.sub_self]; rfl
    have hcond : pre.length + 1 + (encS x).length + 32 ≤ (pre ++ (outL h (x :: t) ++ List.replicate m 0)).length ∧ recS h x = ((pre ++ (outL h (x :: t) ++ List.replicate m 0)).drop pre.length).take (pre.length + 1 + (encS x).length + 32 - pre.length) := by
      constructor
      · rw [e1, List.length_append, List.length_append]; omega
      · rw [e1, List.drop_left' rfl, List.take_left' (by omega)]
    rw [loadL, hb]
    simp only
    rw [if_neg (by decide), if_pos (by decide), hd]
    simp only
    rw [if_pos hcond]
    have e3 : pre.length + (recS h x).length = (pre ++ recS h x).length := by rw [List.length_append]
    rw [e2, e3, ih]
    simp only [outL, headL, List.length_append, List.append_assoc, List.singleton_append]
    congr 3; omega
theorem JD.load {j : JrS} {d : DiskS} (hj : JD j d) : loadL d.vi (d.vi.length + 1) [] zero32 0 = some (j.rs, j.h, j.sz) ∧ ∀ x ∈ d.vi.drop j.sz, x = 0 := by
  have hn : j.rs.length ≤ (outL zero32 j.rs).length := by
    have : ∀ (ls : List (List UInt8)) (h : List UInt8), (∀ r ∈ ls, r.length ≤ 65536) → ls.length ≤ (outL h ls).length := by
      intro ls
      induction ls with
      | nil => intro h _; simp [outL]
      | cons x t ih =>
        intro h hl
        have h1 := recS_len h x (hl x (by simp))
        have h2 := ih (chainS h x) (fun r hr => hl r (by simp [hr]))
        simp only [outL, List.length_append, List.length_cons]; omega
    exact this j.rs zero32 hj.short
  have hfit := hj.fit
  have hsz := hj.sz
  constructor
  · have h := load_out (d.vi.length - j.sz) j.rs [] [] zero32 (d.vi.length + 1) hj.short (by omega)
    simp only [List.nil_append, List.length_nil, Nat.zero_add] at h
    rw [← hj.vi, ← hj.head, ← hj.sz] at h
    exact h
  · intro x hx
    rw [hj.vi, List.drop_left' hsz.symm] at hx
    exact List.eq_of_mem_replicate hx
theorem JD.new (n : Nat) (h1 : 1 ≤ n) : JD ⟨[], zero32, 0, false⟩ (DiskS.new n) :=
  ⟨rfl, rfl, rfl, rfl, rfl, rfl, rfl, Nat.zero_le _, by simp [DiskS.new, outL], by simp⟩

end Go.Proofs.YtddblcjcodejaaaDoor
