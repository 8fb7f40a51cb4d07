/- The law LeaseTrue. -/
import Derived.Test.YtkgmgmkbgnkdnaaGreatDoorEz
import Derived.Test.YtkgmgmkbgnkdnaaGreatDoorQe2
import Derived.Test.YtkgmgmkbgnkdnaaGreatDoorQe8
import Derived.Test.YtkgmgmkbgnkdnaaGreatDoorTk1
import Derived.Test.YtkgmgmkbgnkdnaaGreatDoorLeaseF2

namespace Go.Proofs.YtkgmgmkbgnkdnaaGreatDoor
open Go.Proofs.Tryz
open Go Go.RowKit Gw
set_option linter.unusedVariables false
set_option linter.unusedSimpArgs false
set_option maxRecDepth 100000
attribute [local irreducible] Gw.At Gw.Nx Gw.Ops
theorem sane16 : DoesR Tryz.prog 4 #[] [] (.bool true) := fun u R w hs => (sane_calls w).mono (by
  rintro e w' ⟨rfl, hb⟩
  exact .inl ⟨_, [], rfl, ⟨rfl, rfl⟩, hs.below hb⟩)
theorem valid_of {kd tb cl lo hi bq ot : Int} (h : (0 ≤ tb ∧ tb ≤ 3) ∧ (0 ≤ cl ∧ cl ≤ 3) ∧ (-1000000000 ≤ lo ∧ lo ≤ hi ∧ hi ≤ 1000000000) ∧
  ((kd = 1 ∧ cl = 0 ∧ lo = hi ∧ (1 ≤ lo ∧ lo ≤ 1000000) ∧ bq = 0 ∧ ot = 0) ∨ ((kd = 2 ∨ kd = 3) ∧ bq = 0 ∧ ot = 0) ∨
   ((kd = 4 ∨ kd = 5 ∨ kd = 6) ∧ (1 ≤ bq ∧ bq ≤ 3) ∧ ot = 0) ∨ (kd = 7 ∧ (1 ≤ bq ∧ bq ≤ 3) ∧ (0 ≤ ot ∧ ot ≤ 3)))) : ValidQ ⟨kd, tb, cl, lo, hi, bq, ot⟩ := h
theorem eval_len (rs : List RowM) (q : QM) : (evalT rs q).rows.length ≤ 2 * rs.length := by
  have h1 : (scanL rs q).length ≤ rs.length := (@rangeL_sub rs q.tb q.cl.toNat q.lo q.hi).1
  have h2 := join_len q (scanL rs q) (tabL rs q.ot)
  unfold evalT fromQ
  split
  · simp
  · split
    · simp
    · split
      · rw [show (extT (fun a b => decide (a < b)) (measT q (scanL rs q))).rows = [] from extT_rows (fun a b => decide (a < b)) (measT q (scanL rs q)) ResM.none]; simp
      · split
        · rw [show (extT (fun a b => decide (b < a)) (measT q (scanL rs q))).rows = [] from extT_rows (fun a b => decide (b < a)) (measT q (scanL rs q)) ResM.none]; simp
        · split <;> (simp only; omega)
def Barred (l : List RecM) (q : QM) (a i : Nat) (bar : Int) : Prop := ∀ (j : Nat) (r : RecM), a ≤ j → j < i → l[j]? = some r → r.cs.any (touchQ q) = true → (j : Int) + 1 ≤ bar
theorem barred_zero (l : List RecM) (q : QM) (a : Nat) (bar : Int) : Barred l q a a bar := fun j r h1 h2 => by omega
theorem barred_keep {l : List RecM} {q : QM} {a i : Nat} {bar : Int} (h : Barred l q a i bar) {r : RecM} (hr : l[i]? = some r) (hn : r.cs.any (touchQ q) = false) : Barred l q a (i + 1) bar := fun j r' h1 h2 h3 h4 => by
  rcases Nat.lt_or_ge j i with h5 | h5
  · exact h j r' h1 h5 h3 h4
  · obtain rfl : j = i := by omega
    rw [hr] at h3
    injection h3 with h3
    subst h3
    rw [hn] at h4; cases h4
theorem barred_touch {l : List RecM} {q : QM} {a i : Nat} {bar xp : Int} (h : Barred l q a i bar) (hp : xp = (i : Int) + 1) : Barred l q a (i + 1) (max bar xp) := fun j r' h1 h2 h3 h4 => by
  rcases Nat.lt_or_ge j i with h5 | h5
  · have := h j r' h1 h5 h3 h4; omega
  · omega
theorem any_snoc {cs : List Chg} {k : Nat} {x : Chg} (f : Chg → Bool) (hx : cs[k]? = some x) : (cs.take (k + 1)).any f = ((cs.take k).any f || f x) := by
  rw [take_snoc hx, List.any_append, List.any_cons, List.any_nil, Bool.or_false]
theorem tdiv_in {z : Int} (h1 : -9223372036854775808 ≤ z) (h2 : z ≤ 9223372036854775807) : -9223372036854775808 ≤ z.tdiv 12 ∧ z.tdiv 12 ≤ 9223372036854775807 := by
  rcases Int.lt_or_le z 0 with h | h
  · obtain ⟨y, rfl⟩ : ∃ y, z = -y := ⟨-z, by omega⟩
    rw [Int.neg_tdiv, Int.tdiv_eq_ediv_of_nonneg (by omega)]
    omega
  · rw [Int.tdiv_eq_ediv_of_nonneg h]
    omega

theorem pick16 (c : Int) (n : Nat) (hn : 0 < n) (hn2 : n ≤ 1000000) (h1 : -9223372036854775808 ≤ c) (h2 : c ≤ 9223372036854775807) : DoesR Tryz.prog 6 #[.int .i64 c, .int .i64 (n : Int)] [] (.int .i64 (pickN c n : Int)) := by
 refine spec_enter func6 rfl ntmps6 rfl ?_
 intro u R
 refine Zb [0, 1] ?_
 refine Zq <| Zg <| Za Y <| Z0 <| Zx <| Zq <| Zq <| Zg <| Zm Y <| Zv (p_lss Y Y) <| Z0 <| Zx ?_
 refine at_if Y (fun hc1 => ?_) (fun hc1 => ?_)
 ·
  refine Zg <| Zm Y <| Yi Y Y ?_
  (refine op_v (p_neg Y (IntWalk.i64_in _ ?_)) ?_; (focus (omega)))
  refine Za Y <| Z0 <| Zx <| Zq <| Zg <| Zm Y <| Zm Y ?_
  (refine op_v (p_rem Y Y ?_ rfl) ?_; (focus (omega)))
  refine Za Y <| Z0 <| Zx <| at_ret ?_
  refine nx_end1 rfl results6 Y (by exact ⟨by rw [← pickN_eq]; simp [*], rfl⟩)
 refine at_skip <| Zx <| Zq <| Zg <| Zm Y <| Zm Y ?_
 (refine op_v (p_rem Y Y ?_ rfl) ?_; (focus (omega)))
 refine Za Y <| Z0 <| Zx <| at_ret ?_
 refine nx_end1 rfl results6 Y (by exact ⟨by rw [← pickN_eq]; simp [*], rfl⟩)

end Go.Proofs.YtkgmgmkbgnkdnaaGreatDoor
