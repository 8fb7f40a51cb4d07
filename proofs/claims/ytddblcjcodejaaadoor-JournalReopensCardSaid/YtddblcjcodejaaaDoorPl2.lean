/- Plain laws: what is stored is read back. -/
import Derived.Test.YtddblcjcodejaaaDoorPl1
namespace Go.Proofs.YtddblcjcodejaaaDoor
open Go Go.RowKit Gw
set_option linter.unusedVariables false
set_option maxRecDepth 100000
attribute [local irreducible] Gw.At Gw.Nx Gw.Ops
theorem decG_grps (s : List UInt8) (a : Nat) : ∀ (f i z y : Nat), (grps y).length ≤ f → (0 < i → 0 < y) → ¬ uz (z + y * 2 ^ (7 * i)) < -4611686018427387903 → (∀ k, k < (grps y).length → s[a + i + k]? = ((grps y).map gb)[k]?) →
    decG s a i z f = some (uz (z + y * 2 ^ (7 * i)), a + i + (grps y).length)
  | 0, i, z, y, hf, _, _, _ => by
    rw [grps_eq, List.length_cons] at hf; omega
  | f + 1, i, z, y, hf, hp, hM, hs => by
    have h0 := hs 0 (by rw [grps_eq]; simp)
    rw [grps_eq, List.map_cons, List.getElem?_cons_zero, Nat.add_zero] at h0
    rw [decG, h0]
    simp only
    by_cases hy : y < 128
    · have hg : (gb (y % 128, decide (y < 128))).toNat = y := by
        unfold gb
        rw [decide_eq_true hy]
        simp only [if_true]
        rw [UInt8.toNat_ofNat', Nat.mod_eq_of_lt hy]; omega
      rw [hg, if_neg (by omega), Nat.mod_eq_of_lt hy, if_neg (by
        rintro (⟨h1, h2⟩ | h)
        · have := hp h2; omega
        · exact hM h)]
      rw [grps_eq, if_pos hy]; rfl
    · have hg : (gb (y % 128, decide (y < 128))).toNat = y % 128 + 128 := by
        unfold gb
        rw [decide_eq_false hy]
        simp only [Bool.false_eq_true, if_false]
        rw [UInt8.toNat_ofNat']; omega
      rw [hg, if_pos (by omega)]
      have hlen : (grps y).length = (grps (y / 128)).length + 1 := by rw [grps_eq y, if_neg hy, List.length_cons]
      have hsum : z + (y % 128 + 128) % 128 * 2 ^ (7 * i) + y / 128 * 2 ^ (7 * (i + 1)) = z + y * 2 ^ (7 * i) := by
        have e : 2 ^ (7 * (i + 1)) = 128 * 2 ^ (7 * i) := by rw [show 7 * (i + 1) = 7 * i + 7 by omega, Nat.pow_add, Nat.mul_comm]
        rw [e, show (y % 128 + 128) % 128 = y % 128 by omega, ← Nat.mul_assoc, Nat.add_assoc, ← Nat.add_mul]
        congr 2; omega
      have ih := decG_grps s a f (i + 1) (z + (y % 128 + 128) % 128 * 2 ^ (7 * i)) (y / 128) (by omega) (fun _ => by omega) (by rw [hsum]; exact hM) (fun k hk => by
        have := hs (k + 1) (by omega)
        rw [grps_eq y, if_neg hy, List.map_cons, List.getElem?_cons_succ] at this
        rw [← this]; congr 1; omega)
      rw [hsum] at ih
      rw [ih, hlen]
      congr 2; omega
theorem uz_zz (n : Nat) : uz (zz (n : Int)) = (n : Int) := by
  rw [zz_nat]; unfold uz; rw [if_pos (by omega)]; congr 1; omega
theorem decI_enc (pre post : List UInt8) (n : Nat) (h : n ≤ 4611686018427387903) : decI (pre ++ encI (n : Int) ++ post) pre.length = some ((n : Int), pre.length + (encI (n : Int)).length) := by
  have hl := encI_len (n : Int) (by omega) (by omega)
  have he : (encI (n : Int)).length = (grps (zz (n : Int))).length := by unfold encI; rw [List.length_map]
  have := decG_grps (pre ++ encI (n : Int) ++ post) pre.length 9 0 0 (zz (n : Int)) (by omega) (by omega) (by simp only [Nat.mul_zero, Nat.pow_zero, Nat.mul_one, Nat.zero_add]; rw [uz_zz]; omega) (fun k hk => by
    rw [Nat.add_zero, List.append_assoc, List.getElem?_append_right (by omega), show pre.length + k - pre.length = k by omega, List.getElem?_append_left (by omega)]; rfl)
  simp only [Nat.mul_zero, Nat.pow_zero, Nat.mul_one, Nat.zero_add, Nat.add_zero] at this
  rw [uz_zz] at this
  unfold decI
  rw [this, he]
theorem decS_enc (pre post : List UInt8) (r : List UInt8) (h : r.length ≤ 65536) : decS (pre ++ encS r ++ post) pre.length = some (r, pre.length + (encS r).length) := by
  have h1 := decI_enc pre (r ++ post) r.length (by omega)
  have e : pre ++ encI (r.length : Int) ++ (r ++ post) = pre ++ encS r ++ post := by simp [encS]
  rw [e] at h1
  unfold decS
  rw [h1]
  simp only
  have hlen : (pre ++ encS r ++ post).length = pre.length + (encI (r.length : Int)).length + r.length + post.length := by simp [encS]; omega
  rw [if_neg (by rw [hlen]; omega)]
  congr 2
  · rw [← e, Int.toNat_natCast]
    rw [List.drop_left' (by rw [List.length_append]), List.take_left' rfl]
  · rw [Int.toNat_natCast]; simp [encS]; omega

end Go.Proofs.YtddblcjcodejaaaDoor
