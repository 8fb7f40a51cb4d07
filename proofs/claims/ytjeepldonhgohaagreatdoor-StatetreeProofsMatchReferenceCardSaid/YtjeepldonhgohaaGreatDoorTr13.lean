/- What Prove returns is complete, right, and about the rows of the range: in plain words. -/
/- Contracts: Root; Prove refused; the functions of the law of chapter 10. -/
/- The fixed example of the law of chapter 10: its rows, and its digests. -/
import Derived.Test.YtjeepldonhgohaaGreatDoorEz
import Derived.Test.YtjeepldonhgohaaGreatDoorTr10
namespace Go.Proofs.YtjeepldonhgohaaGreatDoor
open Go.Proofs.Tryz
open Go Go.RowKit Gw
set_option linter.unusedVariables false
set_option linter.unusedSimpArgs false
set_option maxRecDepth 100000
attribute [local irreducible] Gw.At Gw.Nx Gw.Ops
theorem val_proof (s : Bs) : ∀ (n : Nat) (l : List Bs) (i : Nat), l.length ≤ n → l[i]? = some s → valR s l.length i (proofT l i).reverse = some (rootT l)
  | n, l, i, hn, hi => by
    have hlt := (List.getElem?_eq_some_iff.1 hi).1
    rcases Nat.lt_or_ge l.length 2 with h | h
    · match l, hi with
      | [x], hi =>
        have h0 : i = 0 := by simp at hlt; exact hlt
        subst h0
        simp at hi
        subst hi
        rw [proof_one (by simp), root_one]; rfl
      | [], hi => simp at hi
      | x :: y :: l, hi => simp only [List.length_cons] at h; omega
    · have h1 := left_lt h
      have h2 := left_pos l.length
      match n, hn with
      | 0, hn => omega
      | n + 1, hn =>
      have ht : (l.take (leftN l.length)).length = leftN l.length := by rw [List.length_take]; omega
      have hd : (l.drop (leftN l.length)).length = l.length - leftN l.length := List.length_drop
      by_cases hk : i < leftN l.length
      · have ih := val_proof s n (l.take (leftN l.length)) i (by omega) (by rw [List.getElem?_take, if_pos hk]; exact hi)
        rw [ht] at ih
        rw [proof_first h hk, List.reverse_append]
        show valR s l.length i (rootT (l.drop (leftN l.length)) :: (proofT (l.take (leftN l.length)) i).reverse) = _
        rw [val_first h hk, ih, root_more h]; rfl
      · have ih := val_proof s n (l.drop (leftN l.length)) (i - leftN l.length) (by omega) (by rw [List.getElem?_drop, show leftN l.length + (i - leftN l.length) = i by omega]; exact hi)
        rw [hd] at ih
        rw [proof_second h hk, List.reverse_append]
        show valR s l.length i (rootT (l.take (leftN l.length)) :: (proofT (l.drop (leftN l.length)) (i - leftN l.length)).reverse) = _
        rw [val_second h hk, ih, root_more h]; rfl
theorem ver_proof {l : List Bs} {i : Nat} {s : Bs} (hi : l[i]? = some s) : verT (rootT l) l.length i s (proofT l i) = true := by
  unfold verT
  rw [val_proof s l.length l i (Nat.le_refl _) hi]
  have h : (proofT l i).any oddS = false := by
    rw [List.any_eq_false]
    intro x hx
    simp [oddS, proof_digests l.length l i (Nat.le_refl _) x hx]
  rw [h]; simp
theorem first_lt {pd : RowM → Bool} : ∀ {l : List RowM} {i : Nat} {x : RowM}, i < firstN pd l → l[i]? = some x → pd x = false
  | [], i, x, _, hx => by simp at hx
  | z :: l, i, x, hi, hx => by
    unfold firstN at hi
    rw [List.takeWhile_cons] at hi
    by_cases hz : pd z = true
    · rw [if_neg (by simp [hz])] at hi; simp at hi
    · have hz' : pd z = false := by simpa using hz
      rw [if_pos (by simp [hz'])] at hi
      rcases i with _ | i
      · simp at hx; rw [← hx]; exact hz'
      · simp only [List.getElem?_cons_succ] at hx
        exact first_lt (l := l) (by unfold firstN; simp at hi; omega) hx
theorem first_get {pd : RowM → Bool} : ∀ {l : List RowM} {x : RowM}, l[firstN pd l]? = some x → pd x = true
  | [], x, hx => by simp at hx
  | z :: l, x, hx => by
    unfold firstN at hx
    rw [List.takeWhile_cons] at hx
    by_cases hz : pd z = true
    · rw [if_neg (by simp [hz])] at hx; simp at hx; rw [← hx]; exact hz
    · have hz' : pd z = false := by simpa using hz
      rw [if_pos (by simp [hz'])] at hx
      simp only [List.length_cons, List.getElem?_cons_succ] at hx
      exact first_get (l := l) hx
/-- Sorted by value, then key. -/
def ltV (c : Nat) (a b : RowM) : Prop := valN a c < valN b c ∨ valN a c = valN b c ∧ a.k < b.k
theorem ord_strict {rs : List RowM} (hs : SortedR rs) (t : Int) (c : Nat) : (ordL rs t c).Pairwise (ltV c) := by
  have h1 := rangeL_sorted hs t c (-1000000000) 1000000000
  have h2 : (rs.filter (inR t c (-1000000000) 1000000000)).Pairwise (fun a b => a.k ≠ b.k) := (one_table hs fun r h => inR_t h).imp (fun h => by omega)
  have h3 : (rangeL rs t c (-1000000000) 1000000000).Pairwise (fun a b => a.k ≠ b.k) := ((rangeL_perm rs t c (-1000000000) 1000000000).pairwise_iff (fun h => h.symm)).2 h2
  exact (h1.and h3).imp (fun {a b} h => by unfold ltV; obtain ⟨h4, h5⟩ := h; unfold leV at h4; omega)
theorem at_lt {l : List RowM} {R : RowM → RowM → Prop} (h : l.Pairwise R) {i j : Nat} {a b : RowM} (hij : i < j) (ha : l[i]? = some a) (hb : l[j]? = some b) : R a b := by
  obtain ⟨hi, rfl⟩ := List.getElem?_eq_some_iff.1 ha
  obtain ⟨hj, rfl⟩ := List.getElem?_eq_some_iff.1 hb
  exact List.pairwise_iff_getElem.1 h i j hi hj hij
theorem ord_mono {rs : List RowM} (hs : SortedR rs) {t : Int} {c i j : Nat} {a b : RowM} (hij : i ≤ j) (ha : (ordL rs t c)[i]? = some a) (hb : (ordL rs t c)[j]? = some b) : valN a c ≤ valN b c := by
  rcases Nat.eq_or_lt_of_le hij with rfl | h
  · rw [ha] at hb; injection hb with hb; rw [hb]; exact Int.le_refl _
  · have := at_lt (ord_strict hs t c) h ha hb
    unfold ltV at this; omega
theorem lo_at {rs : List RowM} (hs : SortedR rs) (t c : Nat) (lo : Int) {i : Nat} {r : RowM} (hr : (ordL rs (t : Int) c)[i]? = some r) : (firstN (geV c lo) (ordL rs (t : Int) c) ≤ i → lo ≤ valN r c) ∧ (i < firstN (geV c lo) (ordL rs (t : Int) c) → valN r c < lo) := by
  constructor
  · intro h
    have hlt := (List.getElem?_eq_some_iff.1 hr).1
    have hx : (ordL rs (t : Int) c)[firstN (geV c lo) (ordL rs (t : Int) c)]? = some _ := List.getElem?_eq_getElem (by omega)
    have h1 := of_decide_eq_true (first_get hx)
    have h2 := ord_mono hs h hx hr
    omega
  · intro h
    have := of_decide_eq_false (first_lt h hr)
    omega
theorem hi_at {rs : List RowM} (hs : SortedR rs) (t c : Nat) (hi : Int) {i : Nat} {r : RowM} (hr : (ordL rs (t : Int) c)[i]? = some r) : (firstN (gtV c hi) (ordL rs (t : Int) c) ≤ i → hi < valN r c) ∧ (i < firstN (gtV c hi) (ordL rs (t : Int) c) → valN r c ≤ hi) := by
  constructor
  · intro h
    have hlt := (List.getElem?_eq_some_iff.1 hr).1
    have hx : (ordL rs (t : Int) c)[firstN (gtV c hi) (ordL rs (t : Int) c)]? = some _ := List.getElem?_eq_getElem (by omega)
    have h1 := of_decide_eq_true (first_get hx)
    have h2 := ord_mono hs h hx hr
    omega
  · intro h
    have := of_decide_eq_false (first_lt h hr)
    omega
theorem first_mono {rs : List RowM} (hs : SortedR rs) (t c : Nat) (lo hi : Int) (hlh : lo ≤ hi) : firstN (geV c lo) (ordL rs (t : Int) c) ≤ firstN (gtV c hi) (ordL rs (t : Int) c) := by
  rcases Nat.lt_or_ge (firstN (gtV c hi) (ordL rs (t : Int) c)) (firstN (geV c lo) (ordL rs (t : Int) c)) with h | h
  · have h9 := first_le (geV c lo) (ordL rs (t : Int) c)
    have hx : (ordL rs (t : Int) c)[firstN (gtV c hi) (ordL rs (t : Int) c)]? = some _ := List.getElem?_eq_getElem (by omega)
    have h1 := (hi_at hs t c hi hx).1 (Nat.le_refl _)
    have h2 := (lo_at hs t c lo hx).2 h
    omega
  · exact h
theorem slice_at {l : List RowM} {f m j : Nat} {r : RowM} (h : ((l.drop f).take m)[j]? = some r) : j < m ∧ l[f + j]? = some r := by
  rw [List.getElem?_take] at h
  split at h
  · rw [List.getElem?_drop] at h; exact ⟨by assumption, h⟩
  · cases h
theorem ord_mem {rs : List RowM} {t : Int} {c : Nat} {r : RowM} (h : r ∈ ordL rs t c) : r ∈ rs ∧ r.t = t := by
  have := List.mem_filter.1 ((rangeL_perm rs t c _ _).mem_iff.1 h)
  exact ⟨this.1, inR_t this.2⟩
theorem prove_nums {rs : List RowM} (hs : SortedR rs) (t c : Nat) (lo hi : Int) (hlh : lo ≤ hi) : fromT (ordL rs (t : Int) c) c lo ≤ toT (ordL rs (t : Int) c) c hi ∧ toT (ordL rs (t : Int) c) c hi ≤ (ordL rs (t : Int) c).length ∧ (0 < (ordL rs (t : Int) c).length → fromT (ordL rs (t : Int) c) c lo < toT (ordL rs (t : Int) c) c hi) := by
  have h1 := first_mono hs t c lo hi hlh
  have h2 := first_le (geV c lo) (ordL rs (t : Int) c)
  have h3 := first_le (gtV c hi) (ordL rs (t : Int) c)
  unfold fromT toT
  omega
theorem prove_len {rs : List RowM} (hs : SortedR rs) (t c : Nat) (lo hi : Int) (hlh : lo ≤ hi) : (proveT rs t c lo hi).rows.length = toT (ordL rs (t : Int) c) c hi - fromT (ordL rs (t : Int) c) c lo := by
  have := prove_nums hs t c lo hi hlh
  show (((ordL rs (t : Int) c).drop _).take _).length = _
  rw [List.length_take, List.length_drop]
  omega
theorem comp_prove {rs : List RowM} (hs : SortedR rs) (hn : rs.length ≤ 2000) (hok : ∀ r ∈ rs, r.ok) (t c : Nat) (ht : t ≤ 3) (hc : c ≤ 3) (lo hi : Int) (hlh : lo ≤ hi) : Comp (proveT rs t c lo hi) := by
  have h1 := first_mono hs t c lo hi hlh
  have h2 := first_le (geV c lo) (ordL rs (t : Int) c)
  have h3 := first_le (gtV c hi) (ordL rs (t : Int) c)
  have h4 := prove_nums hs t c lo hi hlh
  have h5 := prove_len hs t c lo hi hlh
  have hll := ordL_len hs (t : Int) c
  have hf : fromT (ordL rs (t : Int) c) c lo = firstN (geV c lo) (ordL rs (t : Int) c) - 1 := rfl
  have hto : toT (ordL rs (t : Int) c) c hi = min (firstN (gtV c hi) (ordL rs (t : Int) c) + 1) (ordL rs (t : Int) c).length := rfl
  have hv : ∀ r : RowM, valL r ((c : Nat) : Int) = valN r c := fun r => valL_N r c hc
  refine ⟨⟨⟨?_, ?_⟩, ?_, ?_⟩, hlh, ⟨?_, ?_⟩, ⟨?_, ?_⟩, ?_, ?_, ?_, ?_, ?_⟩
  · show (0 : Int) ≤ (t : Int); omega
  · show (t : Int) < 4; omega
  · show (0 : Int) ≤ (c : Int); omega
  · show (c : Int) < 4; omega
  · show (0 : Int) ≤ ((ordL rs (t : Int) c).length : Int); omega
  · show ((ordL rs (t : Int) c).length : Int) ≤ 2000; omega
  · show (0 : Int) ≤ ((fromT (ordL rs (t : Int) c) c lo : Nat) : Int); omega
  · show ((fromT (ordL rs (t : Int) c) c lo : Nat) : Int) ≤ ((ordL rs (t : Int) c).length : Int); omega
  · rw [h5]; show _ ≤ ((ordL rs (t : Int) c).length : Int) - ((fromT (ordL rs (t : Int) c) c lo : Nat) : Int); omega
  · rw [h5]; intro h0; show ((ordL rs (t : Int) c).length : Int) = 0; omega
  · intro j r hr
    obtain ⟨hj, hr2⟩ := slice_at hr
    have hm := ord_mem (List.mem_of_getElem? hr2)
    have hlo := lo_at hs t c lo hr2
    have hhi := hi_at hs t c hi hr2
    refine ⟨⟨hok r hm.1, hm.2, ?_, ?_⟩, ?_⟩
    · intro h; change valL r (c : Int) < lo at h; rw [hv] at h; omega
    · intro h; change hi < valL r (c : Int) at h; rw [hv] at h; rw [h5]; omega
    · intro hj0 q hq
      obtain ⟨_, hq2⟩ := slice_at hq
      have := at_lt (ord_strict hs (t : Int) c) (by omega) hq2 hr2
      unfold After
      show valL q (c : Int) < valL r (c : Int) ∨ valL q (c : Int) = valL r (c : Int) ∧ q.k < r.k
      rw [hv, hv]
      exact this
  · intro r hr
    obtain ⟨_, hr2⟩ := slice_at hr
    have hlo := lo_at hs t c lo hr2
    show ((fromT (ordL rs (t : Int) c) c lo : Nat) : Int) = 0 ∨ valL r (c : Int) < lo
    rw [hv]
    omega
  · intro r hr
    rw [h5] at hr ⊢
    obtain ⟨hj, hr2⟩ := slice_at hr
    have hhi := hi_at hs t c hi hr2
    show ((fromT (ordL rs (t : Int) c) c lo : Nat) : Int) + _ = ((ordL rs (t : Int) c).length : Int) ∨ hi < valL r (c : Int)
    rw [hv]
    omega
theorem ver_prove {rs : List RowM} (hs : SortedR rs) (hn : rs.length ≤ 2000) (hok : ∀ r ∈ rs, r.ok) (t c : Nat) (ht : t ≤ 3) (hc : c ≤ 3) (lo hi : Int) (hlh : lo ≤ hi) : VerP (rootS rs) (proveT rs t c lo hi) := by
  have h4 := prove_nums hs t c lo hi hlh
  have h5 := prove_len hs t c lo hi hlh
  refine ⟨comp_prove hs hn hok t c ht hc lo hi hlh, sumL_len rs, ?_, rfl, rootT (encL (ordL rs (t : Int) c)), root_len _, ?_, ?_, ?_⟩
  · rw [h5]; exact pathsT_len _ _ _
  · show (sumL rs)[4 * (t : Int).toNat + (c : Int).toNat]? = some (encI ((ordL rs (t : Int) c).length : Int) ++ _)
    rw [Int.toNat_natCast, Int.toNat_natCast]
    unfold sumL
    rw [List.getElem?_map, tc_at t (by omega) c (by omega)]
    rfl
  · intro h0
    change ((ordL rs (t : Int) c).length : Int) = 0 at h0
    rw [List.eq_nil_of_length_eq_zero (show (ordL rs (t : Int) c).length = 0 by omega)]; rfl
  · intro _ k r pf hr hp
    obtain ⟨hk, hr2⟩ := slice_at hr
    change (pathsT (ordL rs (t : Int) c) (fromT (ordL rs (t : Int) c) c lo) _)[k]? = some pf at hp
    unfold pathsT at hp
    rw [List.getElem?_map, List.getElem?_range hk] at hp
    injection hp with hp
    subst hp
    show verT _ ((ordL rs (t : Int) c).length : Int).toNat (((fromT (ordL rs (t : Int) c) c lo : Nat) : Int).toNat + k) _ _ = true
    rw [Int.toNat_natCast, Int.toNat_natCast, ← encL_len (ordL rs (t : Int) c)]
    refine ver_proof ?_
    unfold encL
    rw [List.getElem?_map, hr2]; rfl
theorem rows_prove {rs : List RowM} (hs : SortedR rs) (hn : rs.length ≤ 2000) (hok : ∀ r ∈ rs, r.ok) (t c : Nat) (ht : t ≤ 3) (hc : c ≤ 3) (lo hi : Int) (hlh : lo ≤ hi) : rowsT (proveT rs t c lo hi) = (ordL rs (t : Int) c).filter (inR (t : Int) c lo hi) := by
  have hcm := comp_prove hs hn hok t c ht hc lo hi hlh
  have h4 := prove_nums hs t c lo hi hlh
  have hf : fromT (ordL rs (t : Int) c) c lo = firstN (geV c lo) (ordL rs (t : Int) c) - 1 := rfl
  have hto : toT (ordL rs (t : Int) c) c hi = min (firstN (gtV c hi) (ordL rs (t : Int) c) + 1) (ordL rs (t : Int) c).length := rfl
  have hv : ∀ r : RowM, valL r ((c : Nat) : Int) = valN r c := fun r => valL_N r c hc
  rw [rows_t hcm]
  show (((ordL rs (t : Int) c).drop (fromT (ordL rs (t : Int) c) c lo)).take (toT (ordL rs (t : Int) c) c hi - fromT (ordL rs (t : Int) c) c lo)).filter _ = _
  have e : ordL rs (t : Int) c = (ordL rs (t : Int) c).take (fromT (ordL rs (t : Int) c) c lo) ++ (((ordL rs (t : Int) c).drop (fromT (ordL rs (t : Int) c) c lo)).take (toT (ordL rs (t : Int) c) c hi - fromT (ordL rs (t : Int) c) c lo) ++ (ordL rs (t : Int) c).drop (toT (ordL rs (t : Int) c) c hi)) := by
    have e1 : (ordL rs (t : Int) c).drop (toT (ordL rs (t : Int) c) c hi) = ((ordL rs (t : Int) c).drop (fromT (ordL rs (t : Int) c) c lo)).drop (toT (ordL rs (t : Int) c) c hi - fromT (ordL rs (t : Int) c) c lo) := by
      rw [List.drop_drop]; congr 1; omega
    rw [e1, List.take_append_drop, List.take_append_drop]
  conv => rhs; rw [e]
  rw [List.filter_append, List.filter_append]
  have z1 : ((ordL rs (t : Int) c).take (fromT (ordL rs (t : Int) c) c lo)).filter (inR (t : Int) c lo hi) = [] := by
    rw [List.filter_eq_nil_iff]
    intro r hr h9
    obtain ⟨i, hi9⟩ := List.getElem?_of_mem hr
    rw [List.getElem?_take] at hi9
    split at hi9
    · have := (lo_at hs t c lo hi9).2 (by omega)
      have := of_decide_eq_true h9
      omega
    · cases hi9
  have z2 : ((ordL rs (t : Int) c).drop (toT (ordL rs (t : Int) c) c hi)).filter (inR (t : Int) c lo hi) = [] := by
    rw [List.filter_eq_nil_iff]
    intro r hr h9
    obtain ⟨i, hi9⟩ := List.getElem?_of_mem hr
    rw [List.getElem?_drop] at hi9
    have hlt := (List.getElem?_eq_some_iff.1 hi9).1
    have := (hi_at hs t c hi hi9).1 (by omega)
    have := of_decide_eq_true h9
    omega
  rw [z1, z2, List.nil_append, List.append_nil]
  refine List.filter_congr ?_
  intro r hr
  have hm := ord_mem (List.mem_of_mem_drop (List.mem_of_mem_take hr))
  unfold inB inR
  show decide (lo ≤ valL r (c : Int) ∧ valL r (c : Int) ≤ hi) = _
  rw [hv]
  exact decide_eq_decide.2 ⟨fun h => ⟨hm.2, h⟩, fun h => h.2⟩
theorem filt_ord {rs : List RowM} (hs : SortedR rs) (hok : ∀ r ∈ rs, r.ok) (t c : Nat) (ht : t ≤ 3) (hc : c ≤ 3) (lo hi : Int) (hlh : lo ≤ hi) : (ordL rs (t : Int) c).filter (inR (t : Int) c lo hi) = rangeL rs (t : Int) c lo hi := by
  refine range_one hs ?_ ?_
  · have h1 := (rangeL_perm rs (t : Int) c (-1000000000) 1000000000).filter (inR (t : Int) c lo hi)
    refine h1.trans ?_
    rw [List.filter_filter]
    refine List.Perm.of_eq (List.filter_congr ?_)
    intro r hr
    obtain ⟨⟨h1, h2, h3⟩, h4, h5⟩ := hok r hr
    unfold inV at h1 h2 h3
    have hb : -1000000000 ≤ valN r c ∧ valN r c ≤ 1000000000 := by
      unfold valN
      split
      · omega
      · split
        · omega
        · split <;> omega
    unfold inR
    rw [← Bool.decide_and]
    exact decide_eq_decide.2 ⟨fun h => h.1, fun h => ⟨h, h.1, hb⟩⟩
  · exact (rangeL_sorted hs (t : Int) c (-1000000000) 1000000000).filter _
theorem rows_range {rs : List RowM} (hs : SortedR rs) (hn : rs.length ≤ 2000) (hok : ∀ r ∈ rs, r.ok) (t c : Nat) (ht : t ≤ 3) (hc : c ≤ 3) (lo hi : Int) (hlh : lo ≤ hi) : rowsT (proveT rs t c lo hi) = rangeL rs (t : Int) c lo hi := by rw [rows_prove hs hn hok t c ht hc lo hi hlh, filt_ord hs hok t c ht hc lo hi hlh]
end Go.Proofs.YtjeepldonhgohaaGreatDoor

namespace Go.Proofs.YtjeepldonhgohaaGreatDoor
open Go.Proofs.Tryz
open Go Go.RowKit Gw
set_option linter.unusedVariables false
set_option linter.unusedSimpArgs false
set_option maxRecDepth 100000
attribute [local irreducible] Gw.At Gw.Nx Gw.Ops
def pickN (c : Int) (n : Nat) : Nat := ((if c < 0 then -(c + 1) else c).tmod n).toNat
theorem pickN_lt (c : Int) (n : Nat) (hn : 0 < n) : pickN c n < n := by
  unfold pickN
  have h1 : 0 ≤ (if c < 0 then -(c + 1) else c) := by split <;> omega
  have h2 := Int.tmod_lt_of_pos (if c < 0 then -(c + 1) else c) (b := (n : Int)) (by omega)
  have h3 := Int.tmod_nonneg (n : Int) h1
  omega
theorem pickN_eq (c : Int) (n : Nat) : (if c < 0 then -(c + 1) else c).tmod n = (pickN c n : Int) := by
  unfold pickN
  have h1 : 0 ≤ (if c < 0 then -(c + 1) else c) := by split <;> omega
  have h3 := Int.tmod_nonneg (n : Int) h1
  omega
theorem put_mem {rs : List RowM} {c : Chg} {x : RowM} (h : x ∈ putL rs c) : x ∈ rs ∨ (c.has = true ∧ x = ⟨c.t, c.k, c.n⟩) := by
  unfold putL at h
  rcases List.mem_append.1 h with h | h
  · rcases List.mem_append.1 h with h | h
    · exact .inl (List.mem_of_mem_take h)
    · exact .inr (newC_mem.1 h)
  · exact .inl (List.mem_of_mem_drop (List.mem_of_mem_drop h))
theorem chg_row {c : Chg} (h : c.ok) (hh : c.has = true) : RowM.ok ⟨c.t, c.k, c.n⟩ := by
  obtain ⟨_, h2, _⟩ := h
  rw [after_t hh] at h2
  exact Classical.not_not.1 fun h9 => h2 (.inr ⟨hh, h9⟩)
theorem putAll_ok : ∀ (cs : List Chg) (rs : List RowM), (∀ r ∈ rs, r.ok) → (∀ c ∈ cs, c.ok) → ∀ r ∈ putAllR rs cs, r.ok
  | [], rs, h, _ => h
  | c :: cs, rs, h, hc => by
    have h1 : ∀ r ∈ putL rs c, r.ok := fun r hr => by
      rcases put_mem hr with hr | ⟨hh, rfl⟩
      · exact h r hr
      · exact chg_row (hc c (by simp)) hh
    exact putAll_ok cs (putL rs c) h1 (fun c hc9 => hc c (by simp [hc9]))
theorem LogOk.rowsOk {l : List RecM} (h : LogOk l) : ∀ i, i ≤ l.length → ∀ r ∈ rowsOf (l.take i), r.ok
  | 0, _ => by intro r hr; simp [rowsOf] at hr
  | i + 1, hi => by
    obtain ⟨r, hr⟩ : ∃ r, l[i]? = some r := ⟨_, List.getElem?_eq_getElem (by omega)⟩
    rw [take_snoc hr, rowsOf_snoc]
    refine putAll_ok _ _ (LogOk.rowsOk h i (by omega)) fun c hc => ?_
    obtain ⟨j, hj⟩ := List.getElem?_of_mem hc
    exact (h i r hr).1.ok.all j c hj
theorem six_take {M : List Chunk} {p : Option Addr} {n cap : Nat} {xs : List (List Int)} (h : SixIn M (.slice p n cap) xs) (k : Nat) (hk : k ≤ n) : SixIn M (.slice p k cap) (xs.take k) := by
  obtain ⟨p9, cap9, e, hl, hg⟩ := h
  injection e with e1 e2 e3
  subst e1 e2 e3
  have e4 : (xs.take k).length = k := by rw [List.length_take]; exact Nat.min_eq_left hk
  refine ⟨p, cap, by rw [e4], by omega, fun i z hz => hg i z ?_⟩
  rw [List.getElem?_take] at hz
  split at hz
  · exact hz
  · cases hz
theorem root_st (v : Value) (p : Int) (rs : List RowM) (s : List Chunk) (hv : StIs v p rs s) (hs : SortedR rs) (hn : rs.length ≤ 2000) (hok : ∀ r ∈ rs, r.ok) (Tg : TypeId) (zg : Nat × Nat) : DoesR Tryz.prog 9 #[v] [[(0, .cells (kTab.map u32v).toArray Tg zg)], s] (.string (str (rootS rs))) := by
 have hml : maxLen = 9223372036854775807 := rfl
 obtain ⟨sp9, mb9, es9, ck9, lm9, rfl, hst9⟩ := id hv
 refine spec_enter func9 rfl ntmps9 rfl ?_
 intro u R
 refine Zb [0] ?_
 refine Zq <| Zg <| Za Y <| Z0 <| Zx <| Zq <| Zq <| Zg <| Zm Y <| Zv (p_eql_ptr_nil underlying25 Y Y) <| Z0 <| Zx ?_
 refine at_if_bool Y (fun h1 => ?_) (fun h1 => ?_)
 ·
  cases h1
 ·
  refine at_skip <| Zx <| Zq <| Zg <| Zm Y <| Zc [_] Y call34 Y rfl (summ_spec _ p rs s hv hs hn hok Tg zg) ?_
  rintro _ _ ⟨_, ⟨so, hso, rfl⟩, rfl⟩
  have hsu := strsU_row (rowS_eq hso (sumL_len rs).symm rfl) (by rw [sumL_len]; omega)
  refine Zr [_] Y call22 Y rfl (root_spec hsu (by rw [sumL_len]; omega) (fun s h => by obtain ⟨x, _, rfl⟩ := List.mem_map.1 h; have := summ_len hs hn x; omega) Tg zg) ?_
  rintro _ _ ⟨rfl, rfl⟩
  refine Za Y <| Z0 <| Zx <| at_ret ?_
  refine nx_end1 rfl results9 Y (by exact ⟨rfl, rfl⟩)

theorem root_none  : DoesR Tryz.prog 9 #[.pointer none] [] (.string (str [])) := by
 refine spec_enter func9 rfl ntmps9 rfl ?_
 intro u R
 refine Zb [0] ?_
 refine Zq <| Zg <| Za Y <| Z0 <| Zx <| Zq <| Zq <| Zg <| Zm Y <| Zv (p_eql_nil_nil underlying25 Y Y) <| Z0 <| Zx ?_
 refine at_if_bool Y (fun h1 => ?_) (fun h1 => ?_)
 ·
  refine Zq <| Zg <| Za Y <| Z0 <| Zx <| at_ret <| Zt ?_
  refine nx_end1 rfl results9 Y (by exact ⟨rfl, rfl⟩)
 ·
  cases h1

theorem prove_none (t c lo hi : Int) : DoesR Tryz.prog 12 #[.pointer none, .int .i64 t, .int .i64 c, .int .i64 lo, .int .i64 hi] [] (.tuple #[.agg #[.int .i64 0, .int .i64 0, .int .i64 0, .int .i64 0, .int .i64 0, .int .i64 0, .slice none 0 0, .slice none 0 0, .slice none 0 0], .int .i64 1]) := by
 refine spec_enter func12 rfl ntmps12 rfl ?_
 intro u R
 refine Zb [0, 1, 2, 3, 4] ?_
 refine Zq <| Zg <| Ze (w_box Y (cs := #[_]) rfl) ?_
 rintro _ _ ⟨b1, rfl, rfl⟩
 refine Ze (w_box Y (cs := #[_]) rfl) ?_
 rintro _ _ ⟨b2, rfl, rfl⟩
 refine Ze (w_box Y (cs := #[_]) rfl) ?_
 rintro _ _ ⟨b3, rfl, rfl⟩
 refine Ze (w_alloc zeroValue37 (cs := #[_, _, _, _, _, _, _, _, _]) rfl) ?_
 rintro _ _ ⟨b4, rfl, rfl⟩
 refine Za Y <| Z0 <| Zx <| Zq <| at_block <| Zq <| Zg <| Zm Y <| Zv (p_eql_nil_nil underlying25 Y Y) <| Za Y <| Z0 <| Zx ?_
 refine at_if_bool Y (fun h1 => ?_) (fun h1 => ?_)
 ·
  refine Zq <| Zg <| Zv (p_build (vs := []) (cs := #[_, _, _, _, _, _, _, _, _]) Y (run_build_struct (pl := #[(0, 1), (1, 1), (2, 1), (3, 1), (4, 1), (5, 1), (6, 1), (7, 1), (8, 1)]) zeroValue37 underlying37 (fun _ => by kernel_rfl) rfl)) ?_
  refine Ze (w_store_agg sizeOf37 Y Y (by (simp [Value.oneCell']; done)) (by repeat (first | exact Upd.here _ | apply Upd.there)) (by rfl) (by first | rfl | (simp; done)) (by first | decide | exact Nat.le_refl _ | (simp; done) | (simp; omega)) (by exact free_zero _)) ?_
  rintro _ _ ⟨rfl, rfl⟩
  refine Za Y <| Z0 <| Zx <| at_ret <| nx_block_ret <| Zt ?_
  refine nx_endct rfl results12 Y (by repeat (first | exact Has.here _ | apply Has.there)) (loadVar_agg isAgg37 sizeOf37 (by first | decide | exact Nat.le_refl _ | (simp; done) | (simp; omega)) (rfl)) Y (by exact ⟨rfl, rfl⟩)
 ·
  cases h1

theorem prove_less (q : Addr) (t c : Nat) (ht : t ≤ 3) (hc : c ≤ 3) (lo hi : Int) (hlh : hi < lo) : DoesR Tryz.prog 12 #[.pointer (some q), .int .i64 (t : Int), .int .i64 (c : Int), .int .i64 lo, .int .i64 hi] [] (.tuple #[.agg #[.int .i64 0, .int .i64 0, .int .i64 0, .int .i64 0, .int .i64 0, .int .i64 0, .slice none 0 0, .slice none 0 0, .slice none 0 0], .int .i64 2]) := by
 refine spec_enter func12 rfl ntmps12 rfl ?_
 intro u R
 refine Zb [0, 1, 2, 3, 4] ?_
 refine Zq <| Zg <| Ze (w_box Y (cs := #[_]) rfl) ?_
 rintro _ _ ⟨b1, rfl, rfl⟩
 refine Ze (w_box Y (cs := #[_]) rfl) ?_
 rintro _ _ ⟨b2, rfl, rfl⟩
 refine Ze (w_box Y (cs := #[_]) rfl) ?_
 rintro _ _ ⟨b3, rfl, rfl⟩
 refine Ze (w_alloc zeroValue37 (cs := #[_, _, _, _, _, _, _, _, _]) rfl) ?_
 rintro _ _ ⟨b4, rfl, rfl⟩
 refine Za Y <| Z0 <| Zx <| Zq <| at_block <| Zq <| Zg <| Zm Y <| Zv (p_eql_ptr_nil underlying25 Y Y) <| Za Y <| Z0 <| Zx ?_
 refine at_if_bool Y (fun h1 => ?_) (fun h1 => ?_)
 ·
  cases h1
 ·
  refine Zq <| Zg <| Zm Y <| Zl isAgg3 Y ?_
  refine Zr [_, _] Y call37 Y rfl (exists_spec (t : Int) (c : Int)) ?_
  rintro _ _ ⟨rfl, rfl⟩
  rw [decide_eq_true (show ((0 ≤ (t : Int) ∧ (t : Int) < 4) ∧ 0 ≤ (c : Int) ∧ (c : Int) < 4) by omega)]
  refine Zv (p_not Y) <| Zm Y ?_
  refine ops_split_bool (t := 29) Y rfl (fun h2 => ?_) (fun h2 => ?_)
  ·
   cases h2
  ·
   refine Yl isAgg3 Y ?_
   refine Yl isAgg3 Y ?_
   refine Yg (p_gtr Y Y) <| Zv (p_pick_f Y Y) <| Za Y <| Z0 <| Zn [0, 1, 7, 8, 9, 10, 24] ?_
   refine Zx ?_
   refine at_if Y (fun h3 => ?_) (fun h3 => ?_)
   ·
    refine Zq <| Zg <| Zv (p_build (vs := []) (cs := #[_, _, _, _, _, _, _, _, _]) Y (run_build_struct (pl := #[(0, 1), (1, 1), (2, 1), (3, 1), (4, 1), (5, 1), (6, 1), (7, 1), (8, 1)]) zeroValue37 underlying37 (fun _ => by kernel_rfl) rfl)) ?_
    refine Ze (w_store_agg sizeOf37 Y Y (by (simp [Value.oneCell']; done)) (by repeat (first | exact Upd.here _ | apply Upd.there)) (by rfl) (by first | rfl | (simp; done)) (by first | decide | exact Nat.le_refl _ | (simp; done) | (simp; omega)) (by exact free_zero _)) ?_
    rintro _ _ ⟨rfl, rfl⟩
    refine Za Y <| Z0 <| Zx <| at_ret <| nx_block_ret <| Zt ?_
    refine nx_endct rfl results12 Y (by repeat (first | exact Has.here _ | apply Has.there)) (loadVar_agg isAgg37 sizeOf37 (by first | decide | exact Nat.le_refl _ | (simp; done) | (simp; omega)) (rfl)) Y (by exact ⟨rfl, rfl⟩)
   ·
    exfalso; omega

theorem pick10 (c : Int) (n : Nat) (hn : 0 < n) (hn2 : n ≤ 1000000) (h1 : -9223372036854775808 ≤ c) (h2 : c ≤ 9223372036854775807) : DoesR Tryz.prog 29 #[.int .i64 c, .int .i64 (n : Int)] [] (.int .i64 (pickN c n : Int)) := by
 refine spec_enter func29 rfl ntmps29 rfl ?_
 intro u R
 refine Zb [0, 1] ?_
 refine Zq <| Zg <| Za Y <| Z0 <| Zx <| Zq <| Zq <| Zg <| Zm Y <| Zv (p_lss Y Y) <| Z0 <| Zx ?_
 refine at_if Y (fun hc1 => ?_) (fun hc1 => ?_)
 ·
  refine Zg <| Zm Y <| Yi Y Y ?_
  (refine op_v (p_neg Y (IntWalk.i64_in _ ?_)) ?_; (focus (omega)))
  refine Za Y <| Z0 <| Zx <| Zq <| Zg <| Zm Y <| Zm Y ?_
  (refine op_v (p_rem Y Y ?_ rfl) ?_; (focus (omega)))
  refine Za Y <| Z0 <| Zx <| at_ret ?_
  refine nx_end1 rfl results29 Y (by exact ⟨by rw [← pickN_eq]; simp [*], rfl⟩)
 ·
  refine at_skip <| Zx <| Zq <| Zg <| Zm Y <| Zm Y ?_
  (refine op_v (p_rem Y Y ?_ rfl) ?_; (focus (omega)))
  refine Za Y <| Z0 <| Zx <| at_ret ?_
  refine nx_end1 rfl results29 Y (by exact ⟨by rw [← pickN_eq]; simp [*], rfl⟩)

theorem asked_spec (a b c d : Int) (ha1 : -9223372036854775808 ≤ a) (ha2 : a ≤ 9223372036854775807) (hb1 : -9223372036854775808 ≤ b) (hb2 : b ≤ 9223372036854775807) (hc1 : -9223372036854775808 ≤ c) (hc2 : c ≤ 9223372036854775807) (hd1 : -9223372036854775808 ≤ d) (hd2 : d ≤ 9223372036854775807) : DoesR Tryz.prog 11 #[.agg #[.int .i64 a, .int .i64 b, .int .i64 c, .int .i64 d]] [] (.agg #[.int .i64 (pickN a 4 : Int), .int .i64 (pickN b 4 : Int), .int .i64 ((pickN c 40 : Int) - 20), .int .i64 ((pickN c 40 : Int) - 20 + (pickN d 20 : Int))]) := by
 have hp1 := pickN_lt a 4 (by decide)
 have hp2 := pickN_lt b 4 (by decide)
 have hp3 := pickN_lt c 40 (by decide)
 have hp4 := pickN_lt d 20 (by decide)
 refine spec_enter func11 rfl ntmps11 rfl ?_
 intro u R
 refine Zb [0] ?_
 refine Zq <| Zg <| Ze (w_box Y (cs := #[_, _, _, _]) rfl) ?_
 rintro _ _ ⟨b1, rfl, rfl⟩
 refine Ze (w_alloc zeroValue23 (cs := #[_, _, _, _]) rfl) ?_
 rintro _ _ ⟨b2, rfl, rfl⟩
 refine Z0 <| Zx <| Zq <| Zg ?_
 (refine op_v (p_indexAddr_arr0 (j := 2) underlying23 sizeOf3 Y Y ?_) ?_; (focus (first | omega | decide | (simp; done))))
 refine Zl isAgg3 Y ?_
 refine Zr [_, _] Y call29 Y rfl (pick10 c 40 (by decide) (by decide) hc1 hc2) ?_
 rintro _ _ ⟨rfl, rfl⟩
 refine op_w (p_sub Y Y (IntWalk.i64_in _ (by omega))) rfl rfl ?_
 refine Za Y <| Z0 <| Zx <| Zq <| at_draw (n := 14) (0 :: 1 :: 3 :: 0 :: 8 :: 31 :: 0 :: 0 :: 0 :: 256 :: 831 :: 1983 :: 4095 :: 8191 :: []) 9252 (by kernel_rfl) (by kernel_rfl) rfl ?_
 (refine lin_v (D' := 1) 0 (p_indexAddr_arr0 (j := 0) underlying23 sizeOf3 Y Y ?_) ?_; (focus (first | omega | decide | (simp; done))))
 refine Zj 3 1 rfl isAgg3 Y ?_
 (refine lin_v (D' := 11) 3 (p_indexAddr_arr0 (j := 1) underlying23 sizeOf3 Y Y ?_) ?_; (focus (first | omega | decide | (simp; done))))
 refine Zj 27 4 rfl isAgg3 Y ?_
 refine Zi 91 6 rfl (p_move Y) <| Zi 219 7 rfl (p_move Y) ?_
 (refine lin_v (D' := 475) 8 (p_indexAddr_arr0 (j := 3) underlying23 sizeOf3 Y Y ?_) ?_; (focus (first | omega | decide | (simp; done))))
 refine Zj 987 9 rfl isAgg3 Y ?_
 refine Zz (l := [2]) ?_
 refine Zy 3 991 [9, 4, 1] [true, true, false] [(9, (_, _)), (4, (_, _))] rfl Y rfl rfl rfl rfl (Zu [_, _] Y call29 Y rfl (pick10 a 4 (by decide) (by decide) ha1 ha2)) ?hk_1 (fun _ _ h => h.elim) ?hl_1
 case hk_1 =>
  rintro _ _ ⟨rfl, rfl⟩
  refine ⟨Zk (Zk (keep_nil)), ?_⟩
  refine Zz (l := [5]) ?_
  refine Zy 31 1023 [9, 4] [true, false] [(9, (_, _))] rfl Y rfl rfl rfl rfl (Zu [_, _] Y call29 Y rfl (pick10 b 4 (by decide) (by decide) hb1 hb2)) ?hk_2 (fun _ _ h => h.elim) ?hl_2
  case hk_2 =>
   rintro _ _ ⟨rfl, rfl⟩
   refine ⟨Zk (keep_nil), ?_⟩
   refine Zz (l := [10]) ?_
   refine Zy 831 2047 [9] [false] [] rfl Y rfl rfl rfl rfl (Zu [_, _] Y call29 Y rfl (pick10 d 20 (by decide) (by decide) hd1 hd2)) ?hk_3 (fun _ _ h => h.elim) ?hl_3
   case hk_3 =>
    rintro _ _ ⟨rfl, rfl⟩
    refine ⟨keep_nil, ?_⟩
    (refine lin_v (D' := 4095) 11 (p_add Y Y (IntWalk.i64_in _ ?_)) ?_; (focus (first | omega | (simp; omega))))
    refine Zi 8191 12 rfl (p_build (vs := [(0, .int .i64 (pickN a 4 : Int)), (1, .int .i64 (pickN b 4 : Int)), (2, .int .i64 ((pickN c 40 : Int) - 20)), (3, .int .i64 ((pickN c 40 : Int) - 20 + (pickN d 20 : Int)))]) (cs := #[.int .i64 (pickN a 4 : Int), .int .i64 (pickN b 4 : Int), .int .i64 ((pickN c 40 : Int) - 20), .int .i64 ((pickN c 40 : Int) - 20 + (pickN d 20 : Int))]) Y (run_build_array zeroValue23 underlying23 sizeOf3 (by kernel_rfl))) ?_
    refine Zz (l := [13]) ?_
    refine Zy 8191 16383 [] [] [] rfl Y rfl rfl rfl rfl (w_store_agg sizeOf23 Y Y (by (simp [Value.oneCell']; done)) (by repeat (first | exact Upd.here _ | apply Upd.there)) (by exact (rfl : _ = (#[.int .i64 (pickN a 4 : Int), .int .i64 (pickN b 4 : Int), .int .i64 ((pickN c 40 : Int) - 20), .int .i64 ((pickN c 40 : Int) - 20 + (pickN d 20 : Int))] : Array Value))) (by first | rfl | (simp; done)) (by first | omega | decide | (simp; done)) (by exact free_zero _)) ?hk_4 (fun _ _ h => h.elim) ?hl_4
    case hk_4 =>
     rintro _ _ ⟨rfl, rfl⟩
     refine ⟨keep_nil, ?_⟩
     refine lin_nil ?_
     refine Zn [2] ?_
     refine Zx <| at_ret ?_
     refine nx_endc1 rfl results11 Y (by repeat (first | exact Has.here _ | apply Has.there)) (loadVar_agg isAgg23 sizeOf23 (by first | decide | exact Nat.le_refl _ | (simp; done) | (simp; omega)) (rfl)) (by exact ⟨rfl, rfl⟩)
    case hl_4 =>
     exact each_nil
   case hl_3 =>
    exact each_nil
  case hl_2 =>
   exact each_nil
 case hl_1 =>
  exact each_nil

end Go.Proofs.YtjeepldonhgohaaGreatDoor

namespace Go.Proofs.YtjeepldonhgohaaGreatDoor
open Go.Proofs.Tryz
open Go Go.RowKit Gw
set_option linter.unusedVariables false
set_option linter.unusedSimpArgs false
set_option maxRecDepth 100000
attribute [local irreducible] Gw.At Gw.Nx Gw.Ops
def dgE : Bs := [227, 176, 196, 66, 152, 252, 28, 20, 154, 251, 244, 200, 153, 111, 185, 36, 39, 174, 65, 228, 100, 155, 147, 76, 164, 149, 153, 27, 120, 82, 184, 85]
theorem dgE_eq : sha [] = dgE := by decide +kernel
def dgX : Bs := [45, 113, 22, 66, 183, 38, 176, 68, 1, 98, 124, 169, 251, 172, 50, 245, 200, 83, 15, 177, 144, 60, 196, 219, 2, 37, 135, 23, 146, 26, 72, 129]
theorem dgX_eq : sha [120] = dgX := by decide +kernel
def dg3 : Bs := [126, 82, 72, 198, 56, 76, 244, 145, 212, 73, 204, 25, 222, 112, 228, 211, 128, 12, 18, 204, 48, 202, 134, 148, 194, 13, 21, 244, 213, 238, 227, 141]
theorem dg3_eq : leafS [0, 6, 20, 0, 0] = dg3 := by decide +kernel
def dg5 : Bs := [154, 246, 170, 132, 153, 254, 187, 251, 205, 37, 132, 52, 185, 180, 58, 158, 113, 187, 237, 106, 195, 177, 23, 220, 213, 110, 208, 17, 112, 21, 129, 161]
theorem dg5_eq : leafS [0, 10, 20, 42, 60] = dg5 := by decide +kernel
def dgR : Bs := [122, 98, 32, 164, 6, 148, 76, 227, 203, 77, 31, 38, 91, 81, 198, 134, 235, 186, 142, 215, 35, 79, 172, 223, 52, 244, 18, 63, 221, 179, 94, 245]
theorem dgR_eq : nodeS dg3 dg5 = dgR := by decide +kernel
def dgA : Bs := [30, 55, 52, 13, 98, 59, 243, 48, 208, 242, 16, 209, 5, 169, 34, 185, 157, 186, 173, 131, 163, 198, 139, 208, 6, 114, 59, 230, 233, 203, 125, 255]
theorem dgA_eq : leafS (4 :: dgR) = dgA := by decide +kernel
def dgB : Bs := [20, 221, 88, 71, 169, 142, 178, 21, 127, 209, 14, 30, 94, 153, 71, 124, 14, 92, 26, 179, 54, 185, 6, 43, 199, 220, 101, 92, 65, 85, 240, 131]
theorem dgB_eq : leafS (0 :: dgE) = dgB := by decide +kernel
def dgA2 : Bs := [90, 224, 7, 144, 6, 186, 218, 131, 57, 224, 42, 200, 47, 72, 18, 151, 46, 21, 119, 237, 192, 22, 164, 155, 74, 234, 84, 71, 165, 244, 203, 21]
theorem dgA2_eq : nodeS dgA dgA = dgA2 := by decide +kernel
def dgB2 : Bs := [152, 64, 143, 237, 229, 245, 6, 53, 19, 77, 76, 3, 50, 130, 222, 202, 29, 90, 6, 29, 44, 167, 219, 99, 9, 220, 56, 14, 233, 189, 168, 15]
theorem dgB2_eq : nodeS dgB dgB = dgB2 := by decide +kernel
def dgA4 : Bs := [97, 19, 171, 229, 163, 59, 209, 214, 114, 180, 245, 95, 240, 184, 87, 175, 113, 211, 61, 7, 223, 178, 50, 48, 255, 106, 131, 216, 115, 155, 142, 72]
theorem dgA4_eq : nodeS dgA2 dgA2 = dgA4 := by decide +kernel
def dgB4 : Bs := [94, 96, 213, 198, 185, 198, 9, 152, 61, 217, 138, 235, 184, 172, 132, 102, 1, 129, 180, 11, 176, 19, 54, 0, 237, 18, 37, 163, 138, 24, 234, 96]
theorem dgB4_eq : nodeS dgB2 dgB2 = dgB4 := by decide +kernel
def dgU : Bs := [254, 203, 90, 198, 25, 208, 122, 6, 155, 80, 72, 232, 177, 192, 190, 121, 202, 22, 50, 206, 127, 84, 101, 229, 206, 207, 225, 254, 18, 238, 134, 38]
theorem dgU_eq : nodeS dgA4 dgB4 = dgU := by decide +kernel
def dgV : Bs := [197, 153, 13, 69, 16, 75, 136, 24, 222, 221, 137, 215, 61, 167, 247, 135, 42, 191, 114, 230, 191, 212, 132, 15, 9, 6, 155, 179, 80, 147, 55, 136]
theorem dgV_eq : nodeS dgB4 dgB4 = dgV := by decide +kernel
def dgW : Bs := [37, 255, 18, 30, 133, 245, 178, 98, 247, 230, 97, 165, 46, 94, 84, 54, 8, 219, 23, 133, 6, 37, 173, 173, 223, 150, 54, 39, 252, 64, 216, 44]
theorem dgW_eq : nodeS dgU dgV = dgW := by decide +kernel
def rs0 : List RowM := [⟨0, 3, ⟨10, 0, 0⟩⟩, ⟨0, 5, ⟨10, 21, 30⟩⟩]
theorem enc_small {n : Int} (h0 : 0 ≤ n) (h : n < 64) : encI n = [UInt8.ofNat (2 * n).toNat] := by
  have hz : zz n = (2 * n).toNat := by unfold zz; rw [if_neg (by omega)]
  unfold encI
  rw [hz, grps_eq, if_pos (by omega)]
  have h9 : (2 * n).toNat < 128 := by omega
  simp [gb, h9, Nat.mod_eq_of_lt h9]
theorem ord0 : ∀ c, c < 4 → ordL rs0 0 c = rs0 := by decide +kernel
theorem ord2 : ∀ t, t < 3 → ∀ c, c < 4 → ordL rs0 ((t + 1 : Nat) : Int) c = [] := by decide +kernel
theorem ord1 (t : Nat) (h0 : 0 < t) (h : t < 4) (c : Nat) (hc : c < 4) : ordL rs0 ((t : Nat) : Int) c = [] := by
  obtain ⟨k, rfl⟩ : ∃ k, t = k + 1 := ⟨t - 1, by omega⟩
  exact ord2 k (by omega) c hc
theorem encL0 : encL rs0 = [[0, 6, 20, 0, 0], [0, 10, 20, 42, 60]] := by
  unfold encL rs0 encRow putAll
  simp only [List.map_cons, List.map_nil, List.flatMap_cons, List.flatMap_nil]
  rw [enc_small (n := 0) (by decide) (by decide), enc_small (n := 3) (by decide) (by decide), enc_small (n := 5) (by decide) (by decide), enc_small (n := 10) (by decide) (by decide), enc_small (n := 21) (by decide) (by decide), enc_small (n := 30) (by decide) (by decide)]
  rfl
theorem root_two (a b : Bs) : rootT [a, b] = nodeS (leafS a) (leafS b) := by
  rw [show [a, b] = [a] ++ [b] from rfl, root_join (e := 0) rfl (by simp) (by simp), root_one, root_one]
theorem summ0 (c : Nat) (hc : c < 4) : summ rs0 (0, c) = 4 :: dgR := by
  unfold summ
  show encI ((ordL rs0 0 c).length : Int) ++ rootT (encL (ordL rs0 0 c)) = _
  rw [ord0 c hc, encL0, root_two, dg3_eq, dg5_eq, dgR_eq]
  rw [show ((rs0.length : Nat) : Int) = 2 from rfl, enc_small (by decide) (by decide)]
  rfl
theorem summ1 (t c : Nat) (h0 : 0 < t) (ht : t < 4) (hc : c < 4) : summ rs0 (t, c) = 0 :: dgE := by
  unfold summ
  show encI ((ordL rs0 (t : Int) c).length : Int) ++ rootT (encL (ordL rs0 (t : Int) c)) = _
  rw [ord1 t h0 ht c hc]
  show encI 0 ++ rootT [] = _
  rw [root_nil, dgE_eq, enc_small (by decide) (by decide)]
  rfl
theorem sum0 : sumL rs0 = (List.replicate 2 (4 :: dgR) ++ List.replicate 2 (4 :: dgR)) ++ (List.replicate 2 (0 :: dgE) ++ List.replicate 2 (0 :: dgE)) ++ ((List.replicate 2 (0 :: dgE) ++ List.replicate 2 (0 :: dgE)) ++ (List.replicate 2 (0 :: dgE) ++ List.replicate 2 (0 :: dgE))) := by
  show [summ rs0 (0, 0), summ rs0 (0, 1), summ rs0 (0, 2), summ rs0 (0, 3), summ rs0 (1, 0), summ rs0 (1, 1), summ rs0 (1, 2), summ rs0 (1, 3), summ rs0 (2, 0), summ rs0 (2, 1), summ rs0 (2, 2), summ rs0 (2, 3), summ rs0 (3, 0), summ rs0 (3, 1), summ rs0 (3, 2), summ rs0 (3, 3)] = _
  rw [summ0 0 (by decide), summ0 1 (by decide), summ0 2 (by decide), summ0 3 (by decide), summ1 1 0 (by decide) (by decide) (by decide), summ1 1 1 (by decide) (by decide) (by decide), summ1 1 2 (by decide) (by decide) (by decide), summ1 1 3 (by decide) (by decide) (by decide),
    summ1 2 0 (by decide) (by decide) (by decide), summ1 2 1 (by decide) (by decide) (by decide), summ1 2 2 (by decide) (by decide) (by decide), summ1 2 3 (by decide) (by decide) (by decide), summ1 3 0 (by decide) (by decide) (by decide), summ1 3 1 (by decide) (by decide) (by decide), summ1 3 2 (by decide) (by decide) (by decide), summ1 3 3 (by decide) (by decide) (by decide)]
  rfl
theorem two_A : rootT (List.replicate 2 (4 :: dgR)) = dgA2 := by rw [show List.replicate 2 (4 :: dgR) = [4 :: dgR, 4 :: dgR] from rfl, root_two, dgA_eq, dgA2_eq]
theorem two_B : rootT (List.replicate 2 (0 :: dgE)) = dgB2 := by rw [show List.replicate 2 (0 :: dgE) = [0 :: dgE, 0 :: dgE] from rfl, root_two, dgB_eq, dgB2_eq]
theorem rep_len (x : Bs) : (List.replicate 2 x).length = 2 := List.length_replicate
theorem four_A : rootT (List.replicate 2 (4 :: dgR) ++ List.replicate 2 (4 :: dgR)) = dgA4 := by rw [root_join (e := 1) (rep_len _) (by rw [rep_len]; decide) (by rw [rep_len]; decide), two_A, dgA4_eq]
theorem four_B : rootT (List.replicate 2 (0 :: dgE) ++ List.replicate 2 (0 :: dgE)) = dgB4 := by rw [root_join (e := 1) (rep_len _) (by rw [rep_len]; decide) (by rw [rep_len]; decide), two_B, dgB4_eq]
theorem rep4_len (x y : Bs) : (List.replicate 2 x ++ List.replicate 2 y).length = 4 := by rw [List.length_append, rep_len, rep_len]
theorem rep8_len (x y z w : Bs) : ((List.replicate 2 x ++ List.replicate 2 y) ++ (List.replicate 2 z ++ List.replicate 2 w)).length = 8 := by rw [List.length_append, rep4_len, rep4_len]
theorem root0 : rootS rs0 = dgW := by
  unfold rootS
  rw [sum0, root_join (e := 3) (rep8_len _ _ _ _) (by rw [rep8_len]; decide) (by rw [rep8_len]; decide), root_join (e := 2) (rep4_len _ _) (by rw [rep4_len]; decide) (by rw [rep4_len]; decide), root_join (e := 2) (rep4_len _ _) (by rw [rep4_len]; decide) (by rw [rep4_len]; decide), four_A, four_B, dgU_eq, dgV_eq, dgW_eq]
theorem root0_x : rootS rs0 ≠ sha [120] := by rw [root0, dgX_eq]; decide
def cs0 : List Chg := [⟨0, 3, false, V3.zero, true, ⟨10, 0, 0⟩⟩, ⟨0, 5, false, V3.zero, true, ⟨10, 21, 30⟩⟩]
def l0 (gc : Nat) : List RecM := [⟨1, some ⟨gc, 0, none⟩, 2, cs0⟩]
theorem rs0_sorted : SortedR rs0 := by unfold SortedR rs0; decide
theorem rs0_ok : ∀ r ∈ rs0, r.ok := by decide
theorem rs0_len : rs0.length ≤ 2000 := by decide
theorem log0 (gc : Nat) : LogOk (l0 gc) := by
  intro i r hr
  rcases i with _ | i
  · simp only [l0, List.getElem?_cons_zero, Option.some.injEq] at hr
    subst hr
    refine ⟨⟨⟨show (1 : Int) ≤ 1 ∧ (1 : Int) ≤ 10000 by decide, show 1 ≤ 2 ∧ 2 ≤ 8 by decide, ?_, ?_⟩, rfl, ?_, show sizeL [] cs0 ≤ 2000 by decide⟩, show 2 ≤ 3 by decide⟩
    · intro j c hj
      rcases j with _ | _ | j
      · simp [cs0] at hj; subst hj; decide
      · simp [cs0] at hj; subst hj; decide
      · simp [cs0] at hj
    · intro j b c hb hc
      rcases j with _ | j
      · simp [cs0] at hb hc; subst hb hc; decide
      · simp [cs0] at hc
    · intro c hc
      have h : rowsOf ((l0 gc).take 0) = [] := rfl
      rw [h]
      simp only [cs0, List.mem_cons, List.not_mem_nil, or_false] at hc
      rcases hc with rfl | rfl <;> exact ⟨rfl, fun h => by cases h⟩
  · simp [l0] at hr
theorem rows0 (gc : Nat) : rowsOf ((l0 gc).take 1) = rs0 := rfl
/-- Without its first row. -/
def RP.cut (x : RP) : RP := ⟨x.tb, x.cl, x.lo, x.hi, x.ct, x.fi, x.rows.drop 1, x.paths.drop 1, x.roots⟩
theorem A_rows : (proveT rs0 0 2 1 100).rows = rs0 := by decide +kernel
theorem A_plen : (proveT rs0 0 2 1 100).paths.length = 2 := by decide +kernel
theorem A_in : rangeL rs0 0 2 1 100 = [⟨0, 5, ⟨10, 21, 30⟩⟩] := by decide +kernel
theorem B_rows : (proveT rs0 0 1 11 20).rows = [⟨0, 5, ⟨10, 21, 30⟩⟩] := by decide +kernel
theorem B_in : rangeL rs0 0 1 11 20 = [] := by decide +kernel
theorem A_num : (proveT rs0 0 2 1 100).ct = 2 ∧ (proveT rs0 0 2 1 100).fi = 0 := by decide +kernel
theorem B_num : (proveT rs0 0 1 11 20).ct = 2 ∧ (proveT rs0 0 1 11 20).fi = 1 := by decide +kernel
theorem C_num : (proveT rs0 1 0 1 9).ct = 0 := by decide +kernel
theorem A_cut : ¬ Comp (proveT rs0 0 2 1 100).cut := by
  intro h
  have e : (proveT rs0 0 2 1 100).cut.rows = [⟨0, 5, ⟨10, 21, 30⟩⟩] := by
    show (proveT rs0 0 2 1 100).rows.drop 1 = _
    rw [A_rows]; rfl
  have h1 := h.last ⟨0, 5, ⟨10, 21, 30⟩⟩ (by rw [e]; rfl)
  rw [e] at h1
  have h2 : (proveT rs0 0 2 1 100).cut.ct = 2 := A_num.1
  have h3 : (proveT rs0 0 2 1 100).cut.fi = 0 := A_num.2
  rw [h2, h3] at h1
  have h4 : valL ⟨0, 5, ⟨10, 21, 30⟩⟩ (proveT rs0 0 2 1 100).cut.cl = 21 := rfl
  have h5 : (proveT rs0 0 2 1 100).cut.hi = 100 := rfl
  rw [h4, h5] at h1
  simp at h1
theorem D_comp : ¬ Comp ⟨0, 0, 0, 9, 2, 1, [], [], []⟩ := fun h => by have h1 := h.none rfl; exact absurd h1 (by decide)
theorem B_C : proveT rs0 0 1 11 20 ≠ proveT rs0 1 0 1 9 := fun h => by
  have h1 : (proveT rs0 0 1 11 20).ct = (proveT rs0 1 0 1 9).ct := by rw [h]
  rw [B_num.1, C_num] at h1
  exact absurd h1 (by decide)

end Go.Proofs.YtjeepldonhgohaaGreatDoor
