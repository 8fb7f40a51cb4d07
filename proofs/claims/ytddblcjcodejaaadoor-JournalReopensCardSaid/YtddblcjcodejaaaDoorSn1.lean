/- sane: its numbers. -/
import Derived.Test.YtddblcjcodejaaaDoorJm2
namespace Go.Proofs.YtddblcjcodejaaaDoor
open Go Go.RowKit Gw
set_option linter.unusedVariables false
set_option maxRecDepth 100000
attribute [local irreducible] Gw.At Gw.Nx Gw.Ops
theorem encI_one (n : Nat) (h : n < 64) : (encI (n : Int)).length = 1 := by
  unfold encI; rw [zz_nat, grps_eq, if_pos (by omega)]; rfl
theorem encI_two (n : Nat) (h : 64 ≤ n) (h2 : n < 8192) : (encI (n : Int)).length = 2 := by
  unfold encI; rw [zz_nat, grps_eq, if_neg (by omega), grps_eq, if_pos (by omega)]; rfl
theorem recS_one (h r : List UInt8) (hr : r.length < 64) : (recS h r).length = 34 + r.length := by
  rw [recS_len h r (by omega)]; unfold encS; rw [List.length_append, encI_one _ hr]; omega
theorem recS_two (h r : List UInt8) (h1 : 64 ≤ r.length) (h2 : r.length < 8192) : (recS h r).length = 35 + r.length := by
  rw [recS_len h r (by omega)]; unfold encS; rw [List.length_append, encI_two _ h1 h2]; omega
/-- A disk whose first byte is neither 0 nor 1 is damaged. -/
theorem load_bad (b : UInt8) (t : List UInt8) (h0 : b.toNat ≠ 0) (h1 : b.toNat ≠ 1) : loadL (b :: t) ((b :: t).length + 1) [] zero32 0 = none := by
  rw [loadL, List.getElem?_cons_zero]
  simp only
  rw [if_neg h0, if_neg h1]
def saneA : List (List UInt8) := [[97, 98], []]
def saneB : List (List UInt8) := [List.replicate 96 0]
def saneC : List (List UInt8) := [List.replicate 95 0]
theorem saneA_len (h : List UInt8) : (outL h saneA).length = 70 := by
  have a := recS_one h [97, 98] (by decide)
  have b := recS_one (chainS h [97, 98]) [] (by decide)
  simp only [saneA, outL, List.length_append, a, b, List.length_cons, List.length_nil]
theorem saneB_len (h : List UInt8) : (outL h saneB).length = 131 := by
  have a := recS_two h (List.replicate 96 0) (by decide) (by decide)
  simp only [saneB, outL, List.length_append, a, List.length_replicate, List.length_nil]
theorem saneC_len (h : List UInt8) : (outL h saneC).length = 130 := by
  have a := recS_two h (List.replicate 95 0) (by decide) (by decide)
  simp only [saneC, outL, List.length_append, a, List.length_replicate, List.length_nil]

end Go.Proofs.YtddblcjcodejaaaDoor
