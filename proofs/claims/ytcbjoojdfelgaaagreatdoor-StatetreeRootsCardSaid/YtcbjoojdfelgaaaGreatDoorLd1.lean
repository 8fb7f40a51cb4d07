/- The reference of layer 10: All. -/
/- The records that integers determine, as a function. -/
import Derived.Test.YtcbjoojdfelgaaaGreatDoorEz
import Derived.Test.YtcbjoojdfelgaaaGreatDoorTr22
import Derived.Test.YtcbjoojdfelgaaaGreatDoorEx19
namespace Go.Proofs.YtcbjoojdfelgaaaGreatDoor
open Go.Proofs.Tryz
open Go Go.RowKit Gw
set_option linter.unusedVariables false
set_option linter.unusedSimpArgs false
set_option maxRecDepth 100000
attribute [local irreducible] Gw.At Gw.Nx Gw.Ops
def accT (rs : List RowM) (n : Nat) : List Bs := hashedT (sumL rs) ++ (tcs.take n).flatMap fun x => hashedT (encL (ordL rs (x.1 : Int) x.2))
theorem acc_all (rs : List RowM) : accT rs 16 = allT rs := by unfold accT allT; rw [show tcs.take 16 = tcs from rfl]
theorem acc_zero (rs : List RowM) : accT rs 0 = hashedT (sumL rs) := by unfold accT; simp
theorem acc_next (rs : List RowM) {t c : Nat} (ht : t < 4) (hc : c < 4) : accT rs (4 * t + c + 1) = accT rs (4 * t + c) ++ hashedT (encL (ordL rs ((t : Nat) : Int) c)) := by
  unfold accT
  rw [take_snoc (tc_at t ht c hc), List.flatMap_append, List.append_assoc]
  simp
theorem acc_len {rs : List RowM} (hs : SortedR rs) (hn : rs.length ≤ 2000) : ∀ n, n ≤ 16 → (accT rs n).length ≤ 33 + 4001 * n
  | 0, _ => by
    rw [acc_zero]
    have := (hashed_len _ (sumL rs) (Nat.le_refl _)).1
    rw [sumL_len] at this; omega
  | n + 1, h => by
    have ih := acc_len hs hn n (by omega)
    have e : n = 4 * (n / 4) + n % 4 := by omega
    have h1 := acc_next rs (t := n / 4) (c := n % 4) (by omega) (by omega)
    rw [← e] at h1
    have h2 := (hashed_len _ (encL (ordL rs ((n / 4 : Nat) : Int) (n % 4))) (Nat.le_refl _)).1
    have h3 := ordL_len hs ((n / 4 : Nat) : Int) (n % 4)
    rw [encL_len] at h2
    rw [h1, List.length_append]
    omega
theorem all_ok {rs : List RowM} (hs : SortedR rs) (hn : rs.length ≤ 2000) (hok : ∀ r ∈ rs, r.ok) : (∀ s ∈ allT rs, s.length ≤ 1000) ∧ (allT rs).length ≤ 100000 := by
  refine ⟨fun s h => ?_, ?_⟩
  · rcases List.mem_append.1 h with h | h
    · exact hashed_ok _ _ 1000 (Nat.le_refl _) (by decide) (fun x hx => by obtain ⟨y, _, rfl⟩ := List.mem_map.1 hx; have := summ_len hs hn y; omega) s h
    · obtain ⟨x, _, h⟩ := List.mem_flatMap.1 h
      exact hashed_ok _ _ 1000 (Nat.le_refl _) (by decide) (fun z hz => by have := encL_ok (fun r hr => hok r (range_mem hr)) z hz; omega) s h
  · have := acc_len hs hn 16 (by omega)
    rw [acc_all] at this; omega

theorem r10_all (rp : Nat) (p : Int) (w : Value) (rs : List RowM) (sv : List Chunk) (hrow : RowS 5 60 w rs.length (rowCells rs) sv) (hn : rs.length ≤ 2000) (hs : SortedR rs) (hok : ∀ r ∈ rs, r.ok) : Does Tryz.prog 12 #[.pointer (some ⟨rp, 0, none⟩)] [[(rp, .cells #[w, .int .i64 p] 31 (0, 0))], sv] (fun r H' => ∃ so, RowS 1 9 r (allT rs).length ((allT rs).map strV) so ∧ H' = [so, [(rp, .cells #[w, .int .i64 p] 31 (0, 0))], sv]) := by
 have hml : maxLen = 9223372036854775807 := rfl
 refine spec_enter func12 rfl ntmps12 rfl ?_
 intro u R
 refine Zb [0] ?_
 refine Zq <| Zg <| Za Y <| Z0 <| Zx <| Zq <| Zg <| Zm Y <| Zc [_] Y call25 Y rfl (r10_summ rp p w rs sv hrow hn hs hok) ?_
 rintro _ _ ⟨_, ⟨sm, hm0, rfl⟩, rfl⟩
 have hSm := strsU_row (rowS_eq hm0 (sumL_len rs).symm rfl) (by rw [sumL_len]; omega)
 refine Zc [_] Y call34 Y rfl (r10_hashed _ (Nat.le_refl _) hSm (by rw [sumL_len]; omega) (fun s h => by obtain ⟨x, _, rfl⟩ := List.mem_map.1 h; have := summ_len hs hn x; omega)) ?_
 rintro _ _ ⟨_, ⟨sh, hh0, rfl⟩, rfl⟩
 rw [← acc_zero] at hh0
 refine Za Y <| Z0 <| Zx <| Zq <| Zq <| Zg <| Za Y <| Z0 <| Zx <| at_block <| Zb [3, 4, 0] ?_
 refine at_loopB (e0 := [(3, _), (4, _)]) (H0 := _) (n := _) (fun m e H => ∃ (t : Nat) (vo : Value) (so : List Chunk), m = 4 - t ∧ (t ≤ 4 ∧ RowS 1 9 vo (accT rs (4 * t)).length ((accT rs (4 * t)).map strV) so) ∧ e = [(3, vo), (4, .int .i64 (t : Int))] ∧ H = [so]) (by exact ⟨0, _, sh, rfl, ⟨by omega, hh0⟩, rfl, rfl⟩) (by repeat (first | exact Pull.nil _ | (apply Pull.cons; (focus (repeat (first | exact One.here _ _ | apply One.there)))))) ?_
 rintro _ _ _ ⟨t, vo, so, rfl, ⟨ht, hro⟩, rfl, rfl⟩
 refine Zq <| Zq <| Zg <| Zm Y ?_
 first | refine op_v (p_lss_nat (n := 4) Y Y) ?_ | refine op_v (p_lss Y Y) ?_
 refine Z0 <| Zx ?_
 first | refine at_if Y (fun ht4 => ?_) (fun ht4 => ?_) | refine at_if_bool Y (fun ht4 => ?_) (fun ht4 => ?_)
 ·
  refine at_skip <| Zx <| Zq <| at_block <| Zq <| Zg <| Za Y <| Z0 <| Zx <| at_block <| Zb [3, 5, 0, 4] ?_
  refine at_loopB (e0 := [(3, _), (5, _)]) (H0 := _) (n := _) (fun m e H => ∃ (c : Nat) (vo2 : Value) (so2 : List Chunk), m = 4 - c ∧ (c ≤ 4 ∧ RowS 1 9 vo2 (accT rs (4 * t + c)).length ((accT rs (4 * t + c)).map strV) so2) ∧ e = [(3, vo2), (5, .int .i64 (c : Int))] ∧ H = [so2]) (by exact ⟨0, vo, so, rfl, ⟨by omega, hro⟩, rfl, rfl⟩) (by repeat (first | exact Pull.nil _ | (apply Pull.cons; (focus (repeat (first | exact One.here _ _ | apply One.there)))))) ?_
  rintro _ _ _ ⟨c, vo2, so2, rfl, ⟨hc, hro2⟩, rfl, rfl⟩
  obtain ⟨qo, co, rfl⟩ := hro2.form
  have hal := acc_len hs hn (4 * t + c) (by omega)
  refine Zq <| Zq <| Zg <| Zm Y ?_
  first | refine op_v (p_lss_nat (n := 4) Y Y) ?_ | refine op_v (p_lss Y Y) ?_
  refine Z0 <| Zx ?_
  first | refine at_if Y (fun hc4 => ?_) (fun hc4 => ?_) | refine at_if_bool Y (fun hc4 => ?_) (fun hc4 => ?_)
  ·
   have hol := ordL_len hs (t : Int) c
   refine at_skip <| Zx <| Zq <| at_block <| Zg <| Zm Y <| Zm Y <| Zm Y <| Zm Y <| Zc [_, _, _] Y call36 Y rfl (r10_order rp p w rs sv hrow hn (t : Int) c (by omega)) ?_
   rintro _ _ ⟨_, ⟨sx, hx, rfl⟩, rfl⟩
   have hUx := rowsU_row hx (by omega)
   refine Zc [_] Y call35 Y rfl (r10_entries hUx (by omega) (fun r h => hok r (range_mem h))) ?_
   rintro _ _ ⟨_, ⟨se, he, rfl⟩, rfl⟩
   obtain ⟨qe, ce, rfl⟩ := he.form
   have hSe : StrsU se (.slice qe (ordL rs (t : Int) c).length ce) (encL (ordL rs (t : Int) c)) := strsU_row (rowS_eq he (encL_len _).symm rfl) (by rw [encL_len]; omega)
   have hzl := (hashed_len _ (encL (ordL rs (t : Int) c)) (Nat.le_refl _)).1
   rw [encL_len] at hzl
   refine Zc [_] Y call34 Y rfl (r10_hashed _ (Nat.le_refl _) hSe (by rw [encL_len]; omega) (fun s h => by have := encL_ok (fun r hr => hok r (range_mem hr)) s h; omega)) ?_
   rintro _ _ ⟨_, ⟨sg, hg0, rfl⟩, rfl⟩
   obtain ⟨qg, cg, rfl⟩ := hg0.form
   refine Ze (w_append_subS (by_ := 16) (sz := 1) underlying34 (rfl : Tryz.prog.info? 9 = some Tryz.t9) rfl rfl rfl rfl Y (hro2) Y (subS_of hg0) (by repeat (first | exact One.here _ _ | apply One.there)) (by repeat (first | exact One.here _ _ | apply One.there)) (by exact strV_one _) (by omega) (by omega)) ?_
   rintro _ _ ⟨sw5, hrw5, rfl⟩
   obtain ⟨gw5, cw5, rfl⟩ := hrw5.form
   refine Za Y <| Z0 <| nx_block_normal <| Zx <| Zg <| Zm Y ?_
   first | (refine op_v (p_add_nat (n := 1) Y Y ?_) ?_; (focus (omega))) | (refine op_v (p_add Y Y (IntWalk.i64_in _ ?_)) ?_; (focus (omega)))
   refine Za Y <| Z0 <| Zn [3, 5, 0, 4] ?_
   refine nx_againB (e' := [(3, _), (5, _)]) (m := _) (H' := _) (by exact ⟨c + 1, _, _, rfl, ⟨by omega, rowS_eq hrw5 (by rw [← Nat.add_assoc, acc_next rs ht4 hc4, List.length_append]) (by rw [← Nat.add_assoc, acc_next rs ht4 hc4, List.map_append])⟩, rfl, rfl⟩)
  ·
   refine at_exit <| Zt <| Zt <| nx_block_exit <| nx_block_normal <| Zx <| Zg <| Zm Y ?_
   first | (refine op_v (p_add_nat (n := 1) Y Y ?_) ?_; (focus (omega))) | (refine op_v (p_add Y Y (IntWalk.i64_in _ ?_)) ?_; (focus (omega)))
   refine Za Y <| Z0 <| Zn [3, 4, 0] ?_
   refine nx_againB (e' := [(3, _), (4, _)]) (m := _) (H' := _) (by exact ⟨t + 1, _, so2, rfl, ⟨by omega, by have e4 : c = 4 := (by omega); subst e4; exact hro2⟩, rfl, rfl⟩)
 ·
  have e4 : t = 4 := by omega
  subst e4
  refine at_exit <| Zt <| Zt <| nx_block_exit <| Zx <| Zq <| Zg <| Zm Y <| Za Y <| Z0 <| Zx <| at_ret ?_
  refine nx_end1 rfl results12 Y (by exact ⟨so, rowS_eq hro (by rw [← acc_all]) (by rw [← acc_all]), rfl⟩)

end Go.Proofs.YtcbjoojdfelgaaaGreatDoor

namespace Go.Proofs.YtcbjoojdfelgaaaGreatDoor
open Go.Proofs.Tryz
open Go Go.RowKit Gw
set_option linter.unusedVariables false
set_option linter.unusedSimpArgs false
set_option maxRecDepth 100000
attribute [local irreducible] Gw.At Gw.Nx Gw.Ops
/-- An integer made not negative. -/
def absN (z : Int) : Nat := if z < 0 then (-(z + 1)).toNat else z.toNat
theorem abs_neg {z : Int} (h : z < 0) : (-(z + 1)).toNat = absN z := (if_pos h).symm
theorem abs_pos {z : Int} (h : ¬ z < 0) : z.toNat = absN z := (if_neg h).symm
def hasC (had : Bool) (m : Nat) : Bool := !had || decide (0 < m % 4)
def newV (m : Nat) : V3 := ⟨((m / 4 % 10 : Nat) : Int), ((1 + m / 40 % 9 : Nat) : Int), ((m / 400 % 40 : Nat) : Int) - 20⟩
def chgOf (gr : RowM × Bool) (n m : Nat) : Chg := ⟨((n % 3 : Nat) : Int), ((1 + n / 3 % 9 : Nat) : Int), gr.2, gr.1.v, hasC gr.2 m, if hasC gr.2 m then newV m else V3.zero⟩
def chgAt (rs : List RowM) (n m : Nat) : Chg := chgOf (getL rs ((n % 3 : Nat) : Int) ((1 + n / 3 % 9 : Nat) : Int)) n m
def sameTK (c y : Chg) : Bool := decide (y.t = c.t ∧ y.k = c.k)
def skipC (cs : List Chg) (c : Chg) (k n : Nat) : Prop := cs.any (sameTK c) = true ∨ (c.had = true ∧ c.has = true ∧ c.o = c.n) ∨ (0 < k ∧ n % 5 = 0)
instance (cs : List Chg) (c : Chg) (k n : Nat) : Decidable (skipC cs c k n) := inferInstanceAs (Decidable (_ ∨ _))
def behind (c y : Chg) : Prop := c.t < y.t ∨ y.t = c.t ∧ c.k < y.k
instance (c y : Chg) : Decidable (behind c y) := inferInstanceAs (Decidable (_ ∨ _))
def posC (cs : List Chg) (c : Chg) : Nat → Nat
  | 0 => 0
  | j + 1 => match cs[j]? with
    | some y => if behind c y then posC cs c j else j + 1
    | none => j + 1
theorem pos_step {cs : List Chg} {c y : Chg} {j : Nat} (h0 : 0 < j) (hy : cs[j - 1]? = some y) (h : behind c y) : posC cs c j = posC cs c (j - 1) := by
  obtain ⟨k, rfl⟩ : ∃ k, j = k + 1 := ⟨j - 1, by omega⟩
  rw [Nat.add_sub_cancel] at hy ⊢
  rw [posC, hy]; exact if_pos h
theorem pos_stop {cs : List Chg} {c y : Chg} {j : Nat} (h0 : 0 < j) (hy : cs[j - 1]? = some y) (h : ¬ behind c y) : posC cs c j = j := by
  obtain ⟨k, rfl⟩ : ∃ k, j = k + 1 := ⟨j - 1, by omega⟩
  rw [Nat.add_sub_cancel] at hy
  rw [posC, hy]; exact if_neg h
theorem pos_zero {cs : List Chg} {c : Chg} {j : Nat} (h0 : ¬ 0 < j) : posC cs c j = j := by
  obtain rfl : j = 0 := by omega
  rfl
noncomputable def stepC (rs : List RowM) (z : List Int) (k : Nat) (cs : List Chg) : List Chg :=
  if skipC cs (chgAt rs (absN (z.getD (2 * k) 0)) (absN (z.getD (2 * k + 1) 0))) k (absN (z.getD (2 * k) 0)) then cs
  else cs.take (posC cs (chgAt rs (absN (z.getD (2 * k) 0)) (absN (z.getD (2 * k + 1) 0))) cs.length) ++ [chgAt rs (absN (z.getD (2 * k) 0)) (absN (z.getD (2 * k + 1) 0))] ++ cs.drop (posC cs (chgAt rs (absN (z.getD (2 * k) 0)) (absN (z.getD (2 * k + 1) 0))) cs.length)
noncomputable def chgsOf (rs : List RowM) (z : List Int) : Nat → List Chg
  | 0 => []
  | k + 1 => stepC rs z k (chgsOf rs z k)
theorem at_getD {z : List Int} {i : Nat} {n : Int} (h : z[i]? = some n) : z.getD i 0 = n := by rw [List.getD_eq_getElem?_getD, h]; rfl
theorem chgs_skip {rs : List RowM} {z : List Int} {k n m : Nat} {za zb : Int} {cs : List Chg} {c : Chg} (hcs : cs = chgsOf rs z k) (ha : z[2 * k]? = some za) (hb : z[2 * k + 1]? = some zb) (hn : n = absN za) (hm : m = absN zb) (hc : c = chgAt rs n m) (h : skipC cs c k n) : cs = chgsOf rs z (k + 1) := by
  subst hn hm hc
  show _ = stepC rs z k (chgsOf rs z k)
  unfold stepC
  rw [at_getD ha, at_getD hb, ← hcs, if_pos h]
theorem chgs_put {rs : List RowM} {z : List Int} {k n m j : Nat} {za zb : Int} {cs : List Chg} {c : Chg} (hcs : cs = chgsOf rs z k) (ha : z[2 * k]? = some za) (hb : z[2 * k + 1]? = some zb) (hn : n = absN za) (hm : m = absN zb) (hc : c = chgAt rs n m) (h : ¬ skipC cs c k n) (hj : posC cs c cs.length = j) : cs.take j ++ [c] ++ cs.drop j = chgsOf rs z (k + 1) := by
  subst hn hm hc hj
  show _ = stepC rs z k (chgsOf rs z k)
  unfold stepC
  rw [at_getD ha, at_getD hb, ← hcs, if_neg h]
def rowsC (L : List (List Chg)) : List RowM := L.foldl putAllR []
theorem rowsC_of (l : List RecM) : rowsC (l.map RecM.cs) = rowsOf l := by unfold rowsC rowsOf; rw [List.foldl_map]
noncomputable instance (rs : List RowM) (p q : Int) (cs : List Chg) : Decidable (AppOk rs p q cs) := Classical.propDecidable _
noncomputable def logStep (L : List (List Chg)) (z : List Int) : List (List Chg) :=
  if AppOk (rowsC L) (L.length : Int) ((L.length : Int) + 1) (chgsOf (rowsC L) z 3) then L ++ [chgsOf (rowsC L) z 3] else L
/-- The changes of the records that integers determine. -/
noncomputable def logF (xs : List (List Int)) : List (List Chg) := xs.foldl logStep []
theorem logF_snoc {xs : List (List Int)} {i : Nat} {z : List Int} (hz : xs[i]? = some z) : logF (xs.take (i + 1)) = logStep (logF (xs.take i)) z := by
  unfold logF
  rw [List.take_add_one, hz, List.foldl_append]; rfl
theorem log_yes {xs : List (List Int)} {i : Nat} {z : List Int} {rcs : List RecM} {r : RecM} (hz : xs[i]? = some z) (hl : rcs.map RecM.cs = logF (xs.take i)) (hc : r.cs = chgsOf (rowsOf rcs) z 3) (h : AppOk (rowsOf rcs) (rcs.length : Int) ((rcs.length : Int) + 1) r.cs) : (rcs ++ [r]).map RecM.cs = logF (xs.take (i + 1)) := by
  rw [logF_snoc hz, ← hl]
  unfold logStep
  rw [rowsC_of, List.length_map, ← hc, if_pos h, List.map_append]; rfl
theorem log_no {xs : List (List Int)} {i : Nat} {z : List Int} {rcs : List RecM} {cs : List Chg} (hz : xs[i]? = some z) (hl : rcs.map RecM.cs = logF (xs.take i)) (hc : cs = chgsOf (rowsOf rcs) z 3) (h : ¬ AppOk (rowsOf rcs) (rcs.length : Int) ((rcs.length : Int) + 1) cs) : rcs.map RecM.cs = logF (xs.take (i + 1)) := by
  rw [logF_snoc hz, ← hl]
  unfold logStep
  rw [rowsC_of, List.length_map, ← hc, if_neg h]
theorem any_tk {cs : List Chg} {p : Chg → Bool} {i : Nat} {x : Chg} (hx : cs[i]? = some x) : (cs.take (i + 1)).any p = ((cs.take i).any p || p x) := by
  rw [List.take_add_one, hx, List.any_append]; simp
theorem any_one {cs : List Chg} {p : Chg → Bool} {i : Nat} {x : Chg} {b b' : Bool} (hx : cs[i]? = some x) (hb : b = (cs.take i).any p) (h : b' = (b || p x)) : b' = (cs.take (i + 1)).any p := by
  rw [any_tk hx, ← hb, h]

end Go.Proofs.YtcbjoojdfelgaaaGreatDoor
