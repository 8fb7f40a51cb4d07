/- What damaging keeps. -/
/- The records that integers determine, as a function. -/
import Derived.Test.YtjeepldonhgohaaGreatDoorTr28
import Derived.Test.YtjeepldonhgohaaGreatDoorTr22
import Derived.Test.YtjeepldonhgohaaGreatDoorLg10

namespace Go.Proofs.YtjeepldonhgohaaGreatDoor
open Go Go.RowKit Gw
set_option linter.unusedVariables false
set_option linter.unusedSimpArgs false
set_option maxRecDepth 100000
attribute [local irreducible] Gw.At Gw.Nx Gw.Ops
theorem DamB.mono {x : RP} {B B' : Int} (h : DamB x B) (hb : B ≤ B') : DamB x B' := by
  obtain ⟨h1, h2, h3, h4, h5⟩ := h
  exact ⟨by omega, by omega, by omega, by omega, fun r hr => by have := h5 r hr; omega⟩
/-- What every damage keeps. -/
structure DamI (x : RP) (B : Int) : Prop where
  np : x.paths.length = x.rows.length
  nr : x.rows.length ≤ 2000
  nt : x.roots.length = 16
  sr : ∀ s ∈ x.roots, s.length ≤ 1000
  sp : ∀ l ∈ x.paths, l.length ≤ 1000000
  b : DamB x B
theorem swap_len {α : Type} (l : List α) (k : Nat) : (swapL l k).length = l.length := by
  unfold swapL
  split
  · rw [List.length_set, List.length_set]
  · rfl
theorem swap_mem {α : Type} {l : List α} {k : Nat} {y : α} (h : y ∈ swapL l k) : y ∈ l := by
  unfold swapL at h
  split at h
  · rename_i a b ha hb
    rcases List.mem_or_eq_of_mem_set h with h | h
    · rcases List.mem_or_eq_of_mem_set h with h | h
      · exact h
      · rw [h]; exact List.mem_of_getElem? hb
    · rw [h]; exact List.mem_of_getElem? ha
  · exact h
theorem damI_step {x : RP} {B : Int} (h : DamI x B) (a b c : Int) : DamI (damT x a b c) (B + 10) := by
  have hj := pickN_lt a 12 (by decide)
  have hc5 := pickN_lt c 5 (by decide)
  have hk := pickN_lt b (max x.rows.length 1) (by omega)
  have hI := h
  obtain ⟨np, nr, nt, sr, sp, hb⟩ := h
  have hb' : DamB x (B + 10) := hb.mono (by omega)
  obtain ⟨b1, b2, b3, b4, b5⟩ := hb
  match h9 : pickN a 12, hj with
  | 0, _ => rw [dam_at0 h9]; exact ⟨np, nr, nt, sr, sp, ⟨hb'.lo, hb'.hi, hb'.ct, by simp only; omega, hb'.row⟩⟩
  | 1, _ => rw [dam_at1 h9]; exact ⟨np, nr, nt, sr, sp, ⟨hb'.lo, hb'.hi, by simp only; omega, hb'.fi, hb'.row⟩⟩
  | 2, _ => rw [dam_at2 h9]; exact ⟨np, nr, nt, sr, sp, ⟨by simp only; omega, hb'.hi, hb'.ct, hb'.fi, hb'.row⟩⟩
  | 3, _ => rw [dam_at3 h9]; exact ⟨np, nr, nt, sr, sp, ⟨hb'.lo, by simp only; omega, hb'.ct, hb'.fi, hb'.row⟩⟩
  | 4, _ =>
    rcases hr : x.rows[pickN b (max x.rows.length 1)]? with _ | r
    · have := List.getElem?_eq_none_iff.1 hr
      rw [dam_no4 h9 (by omega)]
      exact ⟨np, nr, nt, sr, sp, hb'⟩
    · rw [dam_at4 h9 hr]
      refine ⟨by simp only [List.length_set]; exact np, by simp only [List.length_set]; exact nr, nt, sr, sp, ⟨hb'.lo, hb'.hi, hb'.ct, hb'.fi, fun q hq => ?_⟩⟩
      rcases List.mem_or_eq_of_mem_set hq with h | h
      · exact hb'.row q h
      · have := b5 r (List.mem_of_getElem? hr)
        rw [h]; unfold bumpV; simp only
        refine ⟨?_, ?_, ?_⟩ <;> split <;> omega
  | 5, _ =>
    rw [dam_at5 h9]
    exact ⟨by simp only [List.length_eraseIdx, np], by simp only [List.length_eraseIdx]; split <;> omega, nt, sr, fun l hl => sp l (List.mem_of_mem_eraseIdx hl), ⟨hb'.lo, hb'.hi, hb'.ct, hb'.fi, fun r hr => hb'.row r (List.mem_of_mem_eraseIdx hr)⟩⟩
  | 6, _ =>
    rw [dam_at6 h9]
    exact ⟨by simp only [swap_len, np], by simp only [swap_len]; exact nr, nt, sr, fun l hl => sp l (swap_mem hl), ⟨hb'.lo, hb'.hi, hb'.ct, hb'.fi, fun r hr => hb'.row r (swap_mem hr)⟩⟩
  | 7, _ =>
    rcases hr : x.paths[pickN b (max x.rows.length 1)]? with _ | l
    · have := List.getElem?_eq_none_iff.1 hr
      rw [dam_no7 h9 np (.inl (by omega))]
      exact ⟨np, nr, nt, sr, sp, hb'⟩
    · rw [dam_at7 h9 hr]
      refine ⟨by simp only [List.length_set]; exact np, nr, nt, sr, fun m hm => ?_, ⟨hb'.lo, hb'.hi, hb'.ct, hb'.fi, hb'.row⟩⟩
      rcases List.mem_or_eq_of_mem_set hm with h | h
      · exact sp m h
      · rw [h, List.length_set]; exact sp l (List.mem_of_getElem? hr)
  | 8, _ =>
    rw [dam_at8 h9]
    refine ⟨np, nr, by simp only [List.length_set]; exact nt, fun s hs => ?_, sp, ⟨hb'.lo, hb'.hi, hb'.ct, hb'.fi, hb'.row⟩⟩
    rcases List.mem_or_eq_of_mem_set hs with h | h
    · exact sr s h
    · rw [h, sha_len]; decide
  | 9, _ => rw [dam_at9 h9]; exact ⟨np, nr, nt, sr, sp, ⟨hb'.lo, hb'.hi, hb'.ct, hb'.fi, hb'.row⟩⟩
  | 10, _ => rw [dam_at10 h9]; exact ⟨rfl, by simp, nt, sr, by simp, ⟨hb'.lo, hb'.hi, by simp only; omega, by simp only; omega, by simp⟩⟩
  | 11, _ => rw [dam_at11 h9]; exact ⟨np, nr, nt, sr, sp, hb'⟩
theorem prove_damI {rs : List RowM} (hs : SortedR rs) (hn : rs.length ≤ 2000) (hok : ∀ r ∈ rs, r.ok) (t c : Nat) (lo hi : Int) (hlh : lo ≤ hi) (hlo : -1000000000 ≤ lo) (hhi : hi ≤ 1000000000) : DamI (proveT rs t c lo hi) 1000000000 := by
  have h1 := prove_len hs t c lo hi hlh
  have h2 := prove_nums hs t c lo hi hlh
  have h3 := ordL_len hs (t : Int) c
  refine ⟨by rw [h1]; exact pathsT_len _ _ _, by omega, sumL_len rs, fun s hss => ?_, prove_paths hs hn t c lo hi, ⟨?_, ?_, ?_, ?_, fun r hr => ?_⟩⟩
  · obtain ⟨x, _, rfl⟩ := List.mem_map.1 hss
    have := summ_len hs hn x; omega
  · show -1000000000 ≤ lo ∧ lo ≤ 1000000000; omega
  · show -1000000000 ≤ hi ∧ hi ≤ 1000000000; omega
  · show (-1000000000 : Int) ≤ ((ordL rs (t : Int) c).length : Nat) ∧ (((ordL rs (t : Int) c).length : Nat) : Int) ≤ 1000000000; omega
  · show (-1000000000 : Int) ≤ ((fromT (ordL rs (t : Int) c) c lo : Nat) : Int) ∧ ((fromT (ordL rs (t : Int) c) c lo : Nat) : Int) ≤ 1000000000
    have := first_le (geV c lo) (ordL rs (t : Int) c)
    unfold fromT; omega
  · have hm := (ord_mem (List.mem_of_mem_drop (List.mem_of_mem_take hr))).1
    obtain ⟨_, ⟨⟨q1, q2, q3⟩, q4, q5⟩⟩ := And.intro hm (hok r hm)
    unfold inV at q1 q2 q3
    omega
theorem damaged_spec {M : List Chunk} {v : Value} {x : RP} (hv : RPIn M v x) {B : Int} (hI : DamI x B) (hB : B ≤ 4000000000000000000) (a b c : Int) (ha1 : -9223372036854775808 ≤ a) (ha2 : a ≤ 9223372036854775807) (hb1 : -9223372036854775808 ≤ b) (hb2 : b ≤ 9223372036854775807) (hc1 : -9223372036854775808 ≤ c) (hc2 : c ≤ 9223372036854775807) (Tg : TypeId) (zg : Nat × Nat) :
    Does Tryz.prog 21 #[v, .agg #[.int .i64 a, .int .i64 b, .int .i64 c]] [[(0, .cells (kTab.map u32v).toArray Tg zg)], M] (fun r H' => ∃ mem, RPIn mem r (damT x a b c) ∧ (∀ ch ∈ M, ch ∈ mem) ∧ H' = [mem, [(0, .cells (kTab.map u32v).toArray Tg zg)]]) := by
  refine does_re (damaged10 hv hI.np (Nat.le_trans hI.nr (by decide)) (by rw [hI.nt]; decide) (by rw [hI.nt]; decide) hI.sp hI.b hB a b c ha1 ha2 hb1 hb2 hc1 hc2 Tg zg) rfl ?_
  rintro r H' ⟨z1, z2, z3, z4, hr, rfl⟩
  refine ⟨_, ⟨_, hr, fun ch h => List.mem_append_right _ (List.mem_append_right _ (List.mem_append_right _ (List.mem_append_right _ h))), rfl⟩, ?_⟩
  simp only [List.flatten_cons, List.flatten_nil, List.append_nil, List.append_assoc]
  exact ((((List.perm_append_comm).append_left z4).append_left z3).append_left z2).append_left z1
theorem kinds (i : Nat) (h : i < 5) : ∃ kd : Int, ([.int .i64 0, .int .i64 1, .int .i64 4, .int .i64 7, .int .i64 8] : List Value).toArray[i]? = some (.int .i64 kd) ∧ (pickN kd 12 = 0 ∨ pickN kd 12 = 1 ∨ pickN kd 12 = 4 ∨ pickN kd 12 = 7 ∨ pickN kd 12 = 8) ∧ 0 ≤ kd ∧ kd ≤ 8 := by
  match i, h with
  | 0, _ => exact ⟨0, rfl, by decide, by decide, by decide⟩
  | 1, _ => exact ⟨1, rfl, by decide, by decide, by decide⟩
  | 2, _ => exact ⟨4, rfl, by decide, by decide, by decide⟩
  | 3, _ => exact ⟨7, rfl, by decide, by decide, by decide⟩
  | 4, _ => exact ⟨8, rfl, by decide, by decide, by decide⟩
end Go.Proofs.YtjeepldonhgohaaGreatDoor

namespace Go.Proofs.YtjeepldonhgohaaGreatDoor
open Go Go.RowKit Gw
set_option linter.unusedVariables false
set_option linter.unusedSimpArgs false
set_option maxRecDepth 100000
attribute [local irreducible] Gw.At Gw.Nx Gw.Ops
/-- An integer made not negative. -/
def absN (z : Int) : Nat := if z < 0 then (-(z + 1)).toNat else z.toNat
theorem abs_neg {z : Int} (h : z < 0) : (-(z + 1)).toNat = absN z := (if_pos h).symm
theorem abs_pos {z : Int} (h : ¬ z < 0) : z.toNat = absN z := (if_neg h).symm
def hasC (had : Bool) (m : Nat) : Bool := !had || decide (0 < m % 4)
def newV (m : Nat) : V3 := ⟨((m / 4 % 10 : Nat) : Int), ((1 + m / 40 % 9 : Nat) : Int), ((m / 400 % 40 : Nat) : Int) - 20⟩
def chgOf (gr : RowM × Bool) (n m : Nat) : Chg := ⟨((n % 3 : Nat) : Int), ((1 + n / 3 % 9 : Nat) : Int), gr.2, gr.1.v, hasC gr.2 m, if hasC gr.2 m then newV m else V3.zero⟩
def chgAt (rs : List RowM) (n m : Nat) : Chg := chgOf (getL rs ((n % 3 : Nat) : Int) ((1 + n / 3 % 9 : Nat) : Int)) n m
def sameTK (c y : Chg) : Bool := decide (y.t = c.t ∧ y.k = c.k)
def skipC (cs : List Chg) (c : Chg) (k n : Nat) : Prop := cs.any (sameTK c) = true ∨ (c.had = true ∧ c.has = true ∧ c.o = c.n) ∨ (0 < k ∧ n % 5 = 0)
instance (cs : List Chg) (c : Chg) (k n : Nat) : Decidable (skipC cs c k n) := inferInstanceAs (Decidable (_ ∨ _))
def behind (c y : Chg) : Prop := c.t < y.t ∨ y.t = c.t ∧ c.k < y.k
instance (c y : Chg) : Decidable (behind c y) := inferInstanceAs (Decidable (_ ∨ _))
def posC (cs : List Chg) (c : Chg) : Nat → Nat
  | 0 => 0
  | j + 1 => match cs[j]? with
    | some y => if behind c y then posC cs c j else j + 1
    | none => j + 1
theorem pos_step {cs : List Chg} {c y : Chg} {j : Nat} (h0 : 0 < j) (hy : cs[j - 1]? = some y) (h : behind c y) : posC cs c j = posC cs c (j - 1) := by
  obtain ⟨k, rfl⟩ : ∃ k, j = k + 1 := ⟨j - 1, by omega⟩
  rw [Nat.add_sub_cancel] at hy ⊢
  rw [posC, hy]; exact if_pos h
theorem pos_stop {cs : List Chg} {c y : Chg} {j : Nat} (h0 : 0 < j) (hy : cs[j - 1]? = some y) (h : ¬ behind c y) : posC cs c j = j := by
  obtain ⟨k, rfl⟩ : ∃ k, j = k + 1 := ⟨j - 1, by omega⟩
  rw [Nat.add_sub_cancel] at hy
  rw [posC, hy]; exact if_neg h
theorem pos_zero {cs : List Chg} {c : Chg} {j : Nat} (h0 : ¬ 0 < j) : posC cs c j = j := by
  obtain rfl : j = 0 := by omega
  rfl
noncomputable def stepC (rs : List RowM) (z : List Int) (k : Nat) (cs : List Chg) : List Chg :=
  if skipC cs (chgAt rs (absN (z.getD (2 * k) 0)) (absN (z.getD (2 * k + 1) 0))) k (absN (z.getD (2 * k) 0)) then cs
  else cs.take (posC cs (chgAt rs (absN (z.getD (2 * k) 0)) (absN (z.getD (2 * k + 1) 0))) cs.length) ++ [chgAt rs (absN (z.getD (2 * k) 0)) (absN (z.getD (2 * k + 1) 0))] ++ cs.drop (posC cs (chgAt rs (absN (z.getD (2 * k) 0)) (absN (z.getD (2 * k + 1) 0))) cs.length)
noncomputable def chgsOf (rs : List RowM) (z : List Int) : Nat → List Chg
  | 0 => []
  | k + 1 => stepC rs z k (chgsOf rs z k)
theorem at_getD {z : List Int} {i : Nat} {n : Int} (h : z[i]? = some n) : z.getD i 0 = n := by rw [List.getD_eq_getElem?_getD, h]; rfl
theorem chgs_skip {rs : List RowM} {z : List Int} {k n m : Nat} {za zb : Int} {cs : List Chg} {c : Chg} (hcs : cs = chgsOf rs z k) (ha : z[2 * k]? = some za) (hb : z[2 * k + 1]? = some zb) (hn : n = absN za) (hm : m = absN zb) (hc : c = chgAt rs n m) (h : skipC cs c k n) : cs = chgsOf rs z (k + 1) := by
  subst hn hm hc
  show _ = stepC rs z k (chgsOf rs z k)
  unfold stepC
  rw [at_getD ha, at_getD hb, ← hcs, if_pos h]
theorem chgs_put {rs : List RowM} {z : List Int} {k n m j : Nat} {za zb : Int} {cs : List Chg} {c : Chg} (hcs : cs = chgsOf rs z k) (ha : z[2 * k]? = some za) (hb : z[2 * k + 1]? = some zb) (hn : n = absN za) (hm : m = absN zb) (hc : c = chgAt rs n m) (h : ¬ skipC cs c k n) (hj : posC cs c cs.length = j) : cs.take j ++ [c] ++ cs.drop j = chgsOf rs z (k + 1) := by
  subst hn hm hc hj
  show _ = stepC rs z k (chgsOf rs z k)
  unfold stepC
  rw [at_getD ha, at_getD hb, ← hcs, if_neg h]
def rowsC (L : List (List Chg)) : List RowM := L.foldl putAllR []
theorem rowsC_of (l : List RecM) : rowsC (l.map RecM.cs) = rowsOf l := by unfold rowsC rowsOf; rw [List.foldl_map]
noncomputable instance (rs : List RowM) (p q : Int) (cs : List Chg) : Decidable (AppOk rs p q cs) := Classical.propDecidable _
noncomputable def logStep (L : List (List Chg)) (z : List Int) : List (List Chg) :=
  if AppOk (rowsC L) (L.length : Int) ((L.length : Int) + 1) (chgsOf (rowsC L) z 3) then L ++ [chgsOf (rowsC L) z 3] else L
/-- The changes of the records that integers determine. -/
noncomputable def logF (xs : List (List Int)) : List (List Chg) := xs.foldl logStep []
theorem logF_snoc {xs : List (List Int)} {i : Nat} {z : List Int} (hz : xs[i]? = some z) : logF (xs.take (i + 1)) = logStep (logF (xs.take i)) z := by
  unfold logF
  rw [List.take_add_one, hz, List.foldl_append]; rfl
theorem log_yes {xs : List (List Int)} {i : Nat} {z : List Int} {rcs : List RecM} {r : RecM} (hz : xs[i]? = some z) (hl : rcs.map RecM.cs = logF (xs.take i)) (hc : r.cs = chgsOf (rowsOf rcs) z 3) (h : AppOk (rowsOf rcs) (rcs.length : Int) ((rcs.length : Int) + 1) r.cs) : (rcs ++ [r]).map RecM.cs = logF (xs.take (i + 1)) := by
  rw [logF_snoc hz, ← hl]
  unfold logStep
  rw [rowsC_of, List.length_map, ← hc, if_pos h, List.map_append]; rfl
theorem log_no {xs : List (List Int)} {i : Nat} {z : List Int} {rcs : List RecM} {cs : List Chg} (hz : xs[i]? = some z) (hl : rcs.map RecM.cs = logF (xs.take i)) (hc : cs = chgsOf (rowsOf rcs) z 3) (h : ¬ AppOk (rowsOf rcs) (rcs.length : Int) ((rcs.length : Int) + 1) cs) : rcs.map RecM.cs = logF (xs.take (i + 1)) := by
  rw [logF_snoc hz, ← hl]
  unfold logStep
  rw [rowsC_of, List.length_map, ← hc, if_neg h]
theorem any_tk {cs : List Chg} {p : Chg → Bool} {i : Nat} {x : Chg} (hx : cs[i]? = some x) : (cs.take (i + 1)).any p = ((cs.take i).any p || p x) := by
  rw [List.take_add_one, hx, List.any_append]; simp
theorem any_one {cs : List Chg} {p : Chg → Bool} {i : Nat} {x : Chg} {b b' : Bool} (hx : cs[i]? = some x) (hb : b = (cs.take i).any p) (h : b' = (b || p x)) : b' = (cs.take (i + 1)).any p := by
  rw [any_tk hx, ← hb, h]

end Go.Proofs.YtjeepldonhgohaaGreatDoor
