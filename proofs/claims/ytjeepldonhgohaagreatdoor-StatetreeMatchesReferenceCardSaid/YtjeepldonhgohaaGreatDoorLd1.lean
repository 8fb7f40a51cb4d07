/- Same over two memories; Prove for any numbers. -/
/- Parts of the order of a table that are proofs; parts of slices. -/
/- The records that integers determine, as a function. -/
import Derived.Test.YtjeepldonhgohaaGreatDoorRt5
import Derived.Test.YtjeepldonhgohaaGreatDoorTr14
import Derived.Test.YtjeepldonhgohaaGreatDoorEx19

namespace Go.Proofs.YtjeepldonhgohaaGreatDoor
open Go Go.RowKit Gw
set_option linter.unusedVariables false
set_option linter.unusedSimpArgs false
set_option maxRecDepth 100000
attribute [local irreducible] Gw.At Gw.Nx Gw.Ops
theorem does_fr {P : Program} {f : FuncId} {args : Array Value} {H1 : Hp} {Q Q1 : Value → Hp → Prop} (h : Does P f args [] Q) (hq : ∀ v H', Q v H' → ∃ H2, Q1 v H2 ∧ H2.flatten.Perm (H'.flatten ++ H1.flatten)) : Does P f args H1 Q1 := fun u R w hs =>
  Calls.mono (h u (H1 ++ R) w hs) fun e w' he => by
    rcases he with ⟨v, H', rfl, h1, h2⟩ | ⟨ch, H', rfl, h1, h2⟩
    · obtain ⟨H2, h3, h4⟩ := hq v H' h1
      refine .inl ⟨v, H2, rfl, h3, h2.perm ?_⟩
      rw [List.flatten_append, List.flatten_append, List.flatten_append, ← List.append_assoc]
      exact h4.symm.append_right _
    · exact h1.elim
theorem r10_same2 {M M' : List Chunk} {v v' : Value} {x y : RP} (hv : RPIn M v x) (hv' : RPIn M' v' y) : DoesR Tryz.prog 16 #[v, v'] [M, M'] (.bool (decide (x = y))) := by
  refine does_re (r10_same (hv.mono (fun c hc => List.mem_append_left M' hc)) (hv'.mono (fun c hc => List.mem_append_right M hc))) (by simp) ?_
  rintro r H' ⟨rfl, rfl⟩
  exact ⟨_, ⟨rfl, rfl⟩, by simp⟩
theorem same_d2 {M M' : List Chunk} {v v' : Value} {x y : RP} (hv : RPIn M v x) (hv' : RPIn M' v' y) : DoesR Tryz.prog 18 #[v, v'] [M, M'] (.bool (decide (x = y))) := by
  refine does_re (same_spec (hv.mono (fun c hc => List.mem_append_left M' hc)) (hv'.mono (fun c hc => List.mem_append_right M hc))) (by simp) ?_
  rintro r H' ⟨rfl, rfl⟩
  exact ⟨_, ⟨rfl, rfl⟩, by simp⟩
def RP.zero : RP := ⟨0, 0, 0, 0, 0, 0, [], [], []⟩
theorem rowsU_none (M : List Chunk) : RowsU M (.slice none 0 0) [] := ⟨none, 0, rfl, ⟨by simp, by simp⟩, by intro i s h; simp at h⟩
theorem pathsU_none (M : List Chunk) : PathsU M (.slice none 0 0) [] := ⟨none, 0, rfl, ⟨by simp, by simp⟩, by intro i s h; simp at h⟩
theorem rp_zero (M : List Chunk) : RPIn M (.agg #[.int .i64 0, .int .i64 0, .int .i64 0, .int .i64 0, .int .i64 0, .int .i64 0, .slice none 0 0, .slice none 0 0, .slice none 0 0]) RP.zero := ⟨_, _, _, rfl, rowsU_none M, pathsU_none M, strsU_none M⟩
def askOk (t c lo hi : Int) : Prop := ((0 ≤ t ∧ t < 4) ∧ 0 ≤ c ∧ c < 4) ∧ lo ≤ hi
instance (t c lo hi : Int) : Decidable (askOk t c lo hi) := inferInstanceAs (Decidable (_ ∧ _))
/-- What Prove returns for any numbers. -/
def proveA (rs : List RowM) (t c lo hi : Int) : RP := if askOk t c lo hi then proveT rs t.toNat c.toNat lo hi else RP.zero
def errA (t c lo hi : Int) : Int := if askOk t c lo hi then 0 else 2
theorem prove_any (v : Value) (p : Int) (rs : List RowM) (s : List Chunk) (hv : StIs v p rs s) (hs : SortedR rs) (hn : rs.length ≤ 2000) (hok : ∀ r ∈ rs, r.ok) (t c lo hi : Int) (Tg : TypeId) (zg : Nat × Nat) :
    Does Tryz.prog 12 #[v, .int .i64 t, .int .i64 c, .int .i64 lo, .int .i64 hi] [[(0, .cells (kTab.map u32v).toArray Tg zg)], s] (fun r H' => ∃ v' mem, r = .tuple #[v', .int .i64 (errA t c lo hi)] ∧ RPIn mem v' (proveA rs t c lo hi) ∧ H' = [mem, [(0, .cells (kTab.map u32v).toArray Tg zg)], s]) := by
  unfold errA proveA
  by_cases h : askOk t c lo hi
  · rw [if_pos h, if_pos h]
    obtain ⟨⟨⟨h1, h2⟩, h3, h4⟩, h5⟩ := h
    have := prove_spec v p rs s hv hs hn hok t.toNat c.toNat (by omega) (by omega) lo hi h5 Tg zg
    rw [Int.toNat_of_nonneg h1, Int.toNat_of_nonneg h3] at this
    exact this
  · rw [if_neg h, if_neg h]
    obtain ⟨sp9, mb9, es9, ck9, lm9, rfl, hst9⟩ := id hv
    refine does_fr (prove_refuse _ t c lo hi h) ?_
    rintro r H' ⟨rfl, rfl⟩
    exact ⟨_, ⟨_, [], rfl, rp_zero _, rfl⟩, by simp⟩
theorem r10_any (rp : Nat) (p : Int) (w : Value) (rs : List RowM) (sv : List Chunk) (hrow : RowS 5 74 w rs.length (rowCells rs) sv) (hn : rs.length ≤ 2000) (hs : SortedR rs) (hok : ∀ r ∈ rs, r.ok) (t c lo hi : Int) :
    Does Tryz.prog 13 #[.pointer (some ⟨rp, 0, none⟩), .int .i64 t, .int .i64 c, .int .i64 lo, .int .i64 hi] [[(rp, .cells #[w, .int .i64 p] 121 (0, 0))], sv] (fun r H' => ∃ v' mem, r = .tuple #[v', .int .i64 (errA t c lo hi)] ∧ RPIn mem v' (proveA rs t c lo hi) ∧ H' = [mem, [(rp, .cells #[w, .int .i64 p] 121 (0, 0))], sv]) := by
  unfold errA proveA
  by_cases h : askOk t c lo hi
  · rw [if_pos h, if_pos h]
    obtain ⟨⟨⟨h1, h2⟩, h3, h4⟩, h5⟩ := h
    have := r10_prove rp p w rs sv hrow hn hs hok t.toNat c.toNat (by omega) (by omega) lo hi h5
    rw [Int.toNat_of_nonneg h1, Int.toNat_of_nonneg h3] at this
    exact this
  · rw [if_neg h, if_neg h]
    refine does_fr (r10_refuse _ t c lo hi h) ?_
    rintro r H' ⟨rfl, rfl⟩
    exact ⟨_, ⟨_, [], rfl, rp_zero _, rfl⟩, by simp⟩

end Go.Proofs.YtjeepldonhgohaaGreatDoor

namespace Go.Proofs.YtjeepldonhgohaaGreatDoor
open Go Go.RowKit Gw
set_option linter.unusedVariables false
set_option linter.unusedSimpArgs false
set_option maxRecDepth 100000
attribute [local irreducible] Gw.At Gw.Nx Gw.Ops
theorem cut_any {g o c sz a : Nat} (h : a < c) : cutAt (some ⟨g, o, none⟩) a c sz = some ⟨g, o + a * sz, none⟩ := by
  unfold cutAt; rw [if_neg (by omega), Option.map_some, add_addr]
theorem RowsU.sub {M : List Chunk} {p : Option Addr} {n cap a b : Nat} {rs : List RowM} (h : RowsU M (.slice p n cap) rs) (ha : a ≤ b) (hb : b ≤ rs.length) : RowsU M (.slice (cutAt p a cap 5) (b - a) (cap - a)) ((rs.drop a).take (b - a)) := by
  obtain ⟨p', cap', e, hl2, hg⟩ := h
  injection e with e1 e2 e3
  subst e1 e2 e3
  refine ⟨_, _, by rw [List.length_take, List.length_drop, Nat.min_eq_left (by omega)], by rw [List.length_take, List.length_drop]; omega, fun i x hx => ?_⟩
  rw [List.getElem?_take] at hx
  split at hx
  · rw [List.getElem?_drop] at hx
    obtain ⟨g, off, cur, T, zz, rfl, hm, hsz, hex⟩ := hg (a + i) x hx
    rw [cut_any (by omega)]
    exact ⟨g, _, cur, T, zz, rfl, hm, by omega, by rw [show off + a * 5 + i * 5 = off + (a + i) * 5 by omega]; exact hex⟩
  · cases hx
theorem PathsU.sub {M : List Chunk} {p : Option Addr} {n cap a b : Nat} {ps : List (List Bs)} (h : PathsU M (.slice p n cap) ps) (ha : a ≤ b) (hb : b ≤ ps.length) : PathsU M (.slice (cutAt p a cap 1) (b - a) (cap - a)) ((ps.drop a).take (b - a)) := by
  obtain ⟨p', cap', e, hl2, hg⟩ := h
  injection e with e1 e2 e3
  subst e1 e2 e3
  refine ⟨_, _, by rw [List.length_take, List.length_drop, Nat.min_eq_left (by omega)], by rw [List.length_take, List.length_drop]; omega, fun i x hx => ?_⟩
  rw [List.getElem?_take] at hx
  split at hx
  · rw [List.getElem?_drop] at hx
    obtain ⟨q, c, hu, g, off, cur, T, zz, rfl, hm, hex⟩ := hg (a + i) x hx
    rw [cut_any (by omega)]
    exact ⟨q, c, hu, g, _, cur, T, zz, rfl, hm, by rw [show off + a * 1 + i = off + (a + i) by omega]; exact hex⟩
  · cases hx

end Go.Proofs.YtjeepldonhgohaaGreatDoor

namespace Go.Proofs.YtjeepldonhgohaaGreatDoor
open Go Go.RowKit Gw
set_option linter.unusedVariables false
set_option linter.unusedSimpArgs false
set_option maxRecDepth 100000
attribute [local irreducible] Gw.At Gw.Nx Gw.Ops
/-- An integer made not negative. -/
def absN (z : Int) : Nat := if z < 0 then (-(z + 1)).toNat else z.toNat
theorem abs_neg {z : Int} (h : z < 0) : (-(z + 1)).toNat = absN z := (if_pos h).symm
theorem abs_pos {z : Int} (h : ¬ z < 0) : z.toNat = absN z := (if_neg h).symm
def hasC (had : Bool) (m : Nat) : Bool := !had || decide (0 < m % 4)
def newV (m : Nat) : V3 := ⟨((m / 4 % 10 : Nat) : Int), ((1 + m / 40 % 9 : Nat) : Int), ((m / 400 % 40 : Nat) : Int) - 20⟩
def chgOf (gr : RowM × Bool) (n m : Nat) : Chg := ⟨((n % 3 : Nat) : Int), ((1 + n / 3 % 9 : Nat) : Int), gr.2, gr.1.v, hasC gr.2 m, if hasC gr.2 m then newV m else V3.zero⟩
def chgAt (rs : List RowM) (n m : Nat) : Chg := chgOf (getL rs ((n % 3 : Nat) : Int) ((1 + n / 3 % 9 : Nat) : Int)) n m
def sameTK (c y : Chg) : Bool := decide (y.t = c.t ∧ y.k = c.k)
def skipC (cs : List Chg) (c : Chg) (k n : Nat) : Prop := cs.any (sameTK c) = true ∨ (c.had = true ∧ c.has = true ∧ c.o = c.n) ∨ (0 < k ∧ n % 5 = 0)
instance (cs : List Chg) (c : Chg) (k n : Nat) : Decidable (skipC cs c k n) := inferInstanceAs (Decidable (_ ∨ _))
def behind (c y : Chg) : Prop := c.t < y.t ∨ y.t = c.t ∧ c.k < y.k
instance (c y : Chg) : Decidable (behind c y) := inferInstanceAs (Decidable (_ ∨ _))
def posC (cs : List Chg) (c : Chg) : Nat → Nat
  | 0 => 0
  | j + 1 => match cs[j]? with
    | some y => if behind c y then posC cs c j else j + 1
    | none => j + 1
theorem pos_step {cs : List Chg} {c y : Chg} {j : Nat} (h0 : 0 < j) (hy : cs[j - 1]? = some y) (h : behind c y) : posC cs c j = posC cs c (j - 1) := by
  obtain ⟨k, rfl⟩ : ∃ k, j = k + 1 := ⟨j - 1, by omega⟩
  rw [Nat.add_sub_cancel] at hy ⊢
  rw [posC, hy]; exact if_pos h
theorem pos_stop {cs : List Chg} {c y : Chg} {j : Nat} (h0 : 0 < j) (hy : cs[j - 1]? = some y) (h : ¬ behind c y) : posC cs c j = j := by
  obtain ⟨k, rfl⟩ : ∃ k, j = k + 1 := ⟨j - 1, by omega⟩
  rw [Nat.add_sub_cancel] at hy
  rw [posC, hy]; exact if_neg h
theorem pos_zero {cs : List Chg} {c : Chg} {j : Nat} (h0 : ¬ 0 < j) : posC cs c j = j := by
  obtain rfl : j = 0 := by omega
  rfl
noncomputable def stepC (rs : List RowM) (z : List Int) (k : Nat) (cs : List Chg) : List Chg :=
  if skipC cs (chgAt rs (absN (z.getD (2 * k) 0)) (absN (z.getD (2 * k + 1) 0))) k (absN (z.getD (2 * k) 0)) then cs
  else cs.take (posC cs (chgAt rs (absN (z.getD (2 * k) 0)) (absN (z.getD (2 * k + 1) 0))) cs.length) ++ [chgAt rs (absN (z.getD (2 * k) 0)) (absN (z.getD (2 * k + 1) 0))] ++ cs.drop (posC cs (chgAt rs (absN (z.getD (2 * k) 0)) (absN (z.getD (2 * k + 1) 0))) cs.length)
noncomputable def chgsOf (rs : List RowM) (z : List Int) : Nat → List Chg
  | 0 => []
  | k + 1 => stepC rs z k (chgsOf rs z k)
theorem at_getD {z : List Int} {i : Nat} {n : Int} (h : z[i]? = some n) : z.getD i 0 = n := by rw [List.getD_eq_getElem?_getD, h]; rfl
theorem chgs_skip {rs : List RowM} {z : List Int} {k n m : Nat} {za zb : Int} {cs : List Chg} {c : Chg} (hcs : cs = chgsOf rs z k) (ha : z[2 * k]? = some za) (hb : z[2 * k + 1]? = some zb) (hn : n = absN za) (hm : m = absN zb) (hc : c = chgAt rs n m) (h : skipC cs c k n) : cs = chgsOf rs z (k + 1) := by
  subst hn hm hc
  show _ = stepC rs z k (chgsOf rs z k)
  unfold stepC
  rw [at_getD ha, at_getD hb, ← hcs, if_pos h]
theorem chgs_put {rs : List RowM} {z : List Int} {k n m j : Nat} {za zb : Int} {cs : List Chg} {c : Chg} (hcs : cs = chgsOf rs z k) (ha : z[2 * k]? = some za) (hb : z[2 * k + 1]? = some zb) (hn : n = absN za) (hm : m = absN zb) (hc : c = chgAt rs n m) (h : ¬ skipC cs c k n) (hj : posC cs c cs.length = j) : cs.take j ++ [c] ++ cs.drop j = chgsOf rs z (k + 1) := by
  subst hn hm hc hj
  show _ = stepC rs z k (chgsOf rs z k)
  unfold stepC
  rw [at_getD ha, at_getD hb, ← hcs, if_neg h]
def rowsC (L : List (List Chg)) : List RowM := L.foldl putAllR []
theorem rowsC_of (l : List RecM) : rowsC (l.map RecM.cs) = rowsOf l := by unfold rowsC rowsOf; rw [List.foldl_map]
noncomputable instance (rs : List RowM) (p q : Int) (cs : List Chg) : Decidable (AppOk rs p q cs) := Classical.propDecidable _
noncomputable def logStep (L : List (List Chg)) (z : List Int) : List (List Chg) :=
  if AppOk (rowsC L) (L.length : Int) ((L.length : Int) + 1) (chgsOf (rowsC L) z 3) then L ++ [chgsOf (rowsC L) z 3] else L
/-- The changes of the records that integers determine. -/
noncomputable def logF (xs : List (List Int)) : List (List Chg) := xs.foldl logStep []
theorem logF_snoc {xs : List (List Int)} {i : Nat} {z : List Int} (hz : xs[i]? = some z) : logF (xs.take (i + 1)) = logStep (logF (xs.take i)) z := by
  unfold logF
  rw [List.take_add_one, hz, List.foldl_append]; rfl
theorem log_yes {xs : List (List Int)} {i : Nat} {z : List Int} {rcs : List RecM} {r : RecM} (hz : xs[i]? = some z) (hl : rcs.map RecM.cs = logF (xs.take i)) (hc : r.cs = chgsOf (rowsOf rcs) z 3) (h : AppOk (rowsOf rcs) (rcs.length : Int) ((rcs.length : Int) + 1) r.cs) : (rcs ++ [r]).map RecM.cs = logF (xs.take (i + 1)) := by
  rw [logF_snoc hz, ← hl]
  unfold logStep
  rw [rowsC_of, List.length_map, ← hc, if_pos h, List.map_append]; rfl
theorem log_no {xs : List (List Int)} {i : Nat} {z : List Int} {rcs : List RecM} {cs : List Chg} (hz : xs[i]? = some z) (hl : rcs.map RecM.cs = logF (xs.take i)) (hc : cs = chgsOf (rowsOf rcs) z 3) (h : ¬ AppOk (rowsOf rcs) (rcs.length : Int) ((rcs.length : Int) + 1) cs) : rcs.map RecM.cs = logF (xs.take (i + 1)) := by
  rw [logF_snoc hz, ← hl]
  unfold logStep
  rw [rowsC_of, List.length_map, ← hc, if_neg h]
theorem any_tk {cs : List Chg} {p : Chg → Bool} {i : Nat} {x : Chg} (hx : cs[i]? = some x) : (cs.take (i + 1)).any p = ((cs.take i).any p || p x) := by
  rw [List.take_add_one, hx, List.any_append]; simp
theorem any_one {cs : List Chg} {p : Chg → Bool} {i : Nat} {x : Chg} {b b' : Bool} (hx : cs[i]? = some x) (hb : b = (cs.take i).any p) (h : b' = (b || p x)) : b' = (cs.take (i + 1)).any p := by
  rw [any_tk hx, ← hb, h]

end Go.Proofs.YtjeepldonhgohaaGreatDoor
