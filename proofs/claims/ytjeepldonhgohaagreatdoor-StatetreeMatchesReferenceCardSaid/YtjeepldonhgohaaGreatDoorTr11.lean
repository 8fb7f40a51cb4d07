/- What Prove returns is complete, right, and about the rows of the range: in plain words. -/
import Derived.Test.YtjeepldonhgohaaGreatDoorTr10
namespace Go.Proofs.YtjeepldonhgohaaGreatDoor
open Go Go.RowKit Gw
set_option linter.unusedVariables false
set_option linter.unusedSimpArgs false
set_option maxRecDepth 100000
attribute [local irreducible] Gw.At Gw.Nx Gw.Ops
theorem val_proof (s : Bs) : ∀ (n : Nat) (l : List Bs) (i : Nat), l.length ≤ n → l[i]? = some s → valR s l.length i (proofT l i).reverse = some (rootT l)
  | n, l, i, hn, hi => by
    have hlt := (List.getElem?_eq_some_iff.1 hi).1
    rcases Nat.lt_or_ge l.length 2 with h | h
    · match l, hi with
      | [x], hi =>
        have h0 : i = 0 := by simp at hlt; exact hlt
        subst h0
        simp at hi
        subst hi
        rw [proof_one (by simp), root_one]; rfl
      | [], hi => simp at hi
      | x :: y :: l, hi => simp only [List.length_cons] at h; omega
    · have h1 := left_lt h
      have h2 := left_pos l.length
      match n, hn with
      | 0, hn => omega
      | n + 1, hn =>
      have ht : (l.take (leftN l.length)).length = leftN l.length := by rw [List.length_take]; omega
      have hd : (l.drop (leftN l.length)).length = l.length - leftN l.length := List.length_drop
      by_cases hk : i < leftN l.length
      · have ih := val_proof s n (l.take (leftN l.length)) i (by omega) (by rw [List.getElem?_take, if_pos hk]; exact hi)
        rw [ht] at ih
        rw [proof_first h hk, List.reverse_append]
        show valR s l.length i (rootT (l.drop (leftN l.length)) :: (proofT (l.take (leftN l.length)) i).reverse) = _
        rw [val_first h hk, ih, root_more h]; rfl
      · have ih := val_proof s n (l.drop (leftN l.length)) (i - leftN l.length) (by omega) (by rw [List.getElem?_drop, show leftN l.length + (i - leftN l.length) = i by omega]; exact hi)
        rw [hd] at ih
        rw [proof_second h hk, List.reverse_append]
        show valR s l.length i (rootT (l.take (leftN l.length)) :: (proofT (l.drop (leftN l.length)) (i - leftN l.length)).reverse) = _
        rw [val_second h hk, ih, root_more h]; rfl
theorem ver_proof {l : List Bs} {i : Nat} {s : Bs} (hi : l[i]? = some s) : verT (rootT l) l.length i s (proofT l i) = true := by
  unfold verT
  rw [val_proof s l.length l i (Nat.le_refl _) hi]
  have h : (proofT l i).any oddS = false := by
    rw [List.any_eq_false]
    intro x hx
    simp [oddS, proof_digests l.length l i (Nat.le_refl _) x hx]
  rw [h]; simp
theorem first_lt {pd : RowM → Bool} : ∀ {l : List RowM} {i : Nat} {x : RowM}, i < firstN pd l → l[i]? = some x → pd x = false
  | [], i, x, _, hx => by simp at hx
  | z :: l, i, x, hi, hx => by
    unfold firstN at hi
    rw [List.takeWhile_cons] at hi
    by_cases hz : pd z = true
    · rw [if_neg (by simp [hz])] at hi; simp at hi
    · have hz' : pd z = false := by simpa using hz
      rw [if_pos (by simp [hz'])] at hi
      rcases i with _ | i
      · simp at hx; rw [← hx]; exact hz'
      · simp only [List.getElem?_cons_succ] at hx
        exact first_lt (l := l) (by unfold firstN; simp at hi; omega) hx
theorem first_get {pd : RowM → Bool} : ∀ {l : List RowM} {x : RowM}, l[firstN pd l]? = some x → pd x = true
  | [], x, hx => by simp at hx
  | z :: l, x, hx => by
    unfold firstN at hx
    rw [List.takeWhile_cons] at hx
    by_cases hz : pd z = true
    · rw [if_neg (by simp [hz])] at hx; simp at hx; rw [← hx]; exact hz
    · have hz' : pd z = false := by simpa using hz
      rw [if_pos (by simp [hz'])] at hx
      simp only [List.length_cons, List.getElem?_cons_succ] at hx
      exact first_get (l := l) hx
/-- Sorted by value, then key. -/
def ltV (c : Nat) (a b : RowM) : Prop := valN a c < valN b c ∨ valN a c = valN b c ∧ a.k < b.k
theorem ord_strict {rs : List RowM} (hs : SortedR rs) (t : Int) (c : Nat) : (ordL rs t c).Pairwise (ltV c) := by
  have h1 := rangeL_sorted hs t c (-1000000000) 1000000000
  have h2 : (rs.filter (inR t c (-1000000000) 1000000000)).Pairwise (fun a b => a.k ≠ b.k) := (one_table hs fun r h => inR_t h).imp (fun h => by omega)
  have h3 : (rangeL rs t c (-1000000000) 1000000000).Pairwise (fun a b => a.k ≠ b.k) := ((rangeL_perm rs t c (-1000000000) 1000000000).pairwise_iff (fun h => h.symm)).2 h2
  exact (h1.and h3).imp (fun {a b} h => by unfold ltV; obtain ⟨h4, h5⟩ := h; unfold leV at h4; omega)
theorem at_lt {l : List RowM} {R : RowM → RowM → Prop} (h : l.Pairwise R) {i j : Nat} {a b : RowM} (hij : i < j) (ha : l[i]? = some a) (hb : l[j]? = some b) : R a b := by
  obtain ⟨hi, rfl⟩ := List.getElem?_eq_some_iff.1 ha
  obtain ⟨hj, rfl⟩ := List.getElem?_eq_some_iff.1 hb
  exact List.pairwise_iff_getElem.1 h i j hi hj hij
theorem ord_mono {rs : List RowM} (hs : SortedR rs) {t : Int} {c i j : Nat} {a b : RowM} (hij : i ≤ j) (ha : (ordL rs t c)[i]? = some a) (hb : (ordL rs t c)[j]? = some b) : valN a c ≤ valN b c := by
  rcases Nat.eq_or_lt_of_le hij with rfl | h
  · rw [ha] at hb; injection hb with hb; rw [hb]; exact Int.le_refl _
  · have := at_lt (ord_strict hs t c) h ha hb
    unfold ltV at this; omega
theorem lo_at {rs : List RowM} (hs : SortedR rs) (t c : Nat) (lo : Int) {i : Nat} {r : RowM} (hr : (ordL rs (t : Int) c)[i]? = some r) : (firstN (geV c lo) (ordL rs (t : Int) c) ≤ i → lo ≤ valN r c) ∧ (i < firstN (geV c lo) (ordL rs (t : Int) c) → valN r c < lo) := by
  constructor
  · intro h
    have hlt := (List.getElem?_eq_some_iff.1 hr).1
    have hx : (ordL rs (t : Int) c)[firstN (geV c lo) (ordL rs (t : Int) c)]? = some _ := List.getElem?_eq_getElem (by omega)
    have h1 := of_decide_eq_true (first_get hx)
    have h2 := ord_mono hs h hx hr
    omega
  · intro h
    have := of_decide_eq_false (first_lt h hr)
    omega
theorem hi_at {rs : List RowM} (hs : SortedR rs) (t c : Nat) (hi : Int) {i : Nat} {r : RowM} (hr : (ordL rs (t : Int) c)[i]? = some r) : (firstN (gtV c hi) (ordL rs (t : Int) c) ≤ i → hi < valN r c) ∧ (i < firstN (gtV c hi) (ordL rs (t : Int) c) → valN r c ≤ hi) := by
  constructor
  · intro h
    have hlt := (List.getElem?_eq_some_iff.1 hr).1
    have hx : (ordL rs (t : Int) c)[firstN (gtV c hi) (ordL rs (t : Int) c)]? = some _ := List.getElem?_eq_getElem (by omega)
    have h1 := of_decide_eq_true (first_get hx)
    have h2 := ord_mono hs h hx hr
    omega
  · intro h
    have := of_decide_eq_false (first_lt h hr)
    omega
theorem first_mono {rs : List RowM} (hs : SortedR rs) (t c : Nat) (lo hi : Int) (hlh : lo ≤ hi) : firstN (geV c lo) (ordL rs (t : Int) c) ≤ firstN (gtV c hi) (ordL rs (t : Int) c) := by
  rcases Nat.lt_or_ge (firstN (gtV c hi) (ordL rs (t : Int) c)) (firstN (geV c lo) (ordL rs (t : Int) c)) with h | h
  · have h9 := first_le (geV c lo) (ordL rs (t : Int) c)
    have hx : (ordL rs (t : Int) c)[firstN (gtV c hi) (ordL rs (t : Int) c)]? = some _ := List.getElem?_eq_getElem (by omega)
    have h1 := (hi_at hs t c hi hx).1 (Nat.le_refl _)
    have h2 := (lo_at hs t c lo hx).2 h
    omega
  · exact h
theorem slice_at {l : List RowM} {f m j : Nat} {r : RowM} (h : ((l.drop f).take m)[j]? = some r) : j < m ∧ l[f + j]? = some r := by
  rw [List.getElem?_take] at h
  split at h
  · rw [List.getElem?_drop] at h; exact ⟨by assumption, h⟩
  · cases h
theorem ord_mem {rs : List RowM} {t : Int} {c : Nat} {r : RowM} (h : r ∈ ordL rs t c) : r ∈ rs ∧ r.t = t := by
  have := List.mem_filter.1 ((rangeL_perm rs t c _ _).mem_iff.1 h)
  exact ⟨this.1, inR_t this.2⟩
theorem prove_nums {rs : List RowM} (hs : SortedR rs) (t c : Nat) (lo hi : Int) (hlh : lo ≤ hi) : fromT (ordL rs (t : Int) c) c lo ≤ toT (ordL rs (t : Int) c) c hi ∧ toT (ordL rs (t : Int) c) c hi ≤ (ordL rs (t : Int) c).length ∧ (0 < (ordL rs (t : Int) c).length → fromT (ordL rs (t : Int) c) c lo < toT (ordL rs (t : Int) c) c hi) := by
  have h1 := first_mono hs t c lo hi hlh
  have h2 := first_le (geV c lo) (ordL rs (t : Int) c)
  have h3 := first_le (gtV c hi) (ordL rs (t : Int) c)
  unfold fromT toT
  omega
theorem prove_len {rs : List RowM} (hs : SortedR rs) (t c : Nat) (lo hi : Int) (hlh : lo ≤ hi) : (proveT rs t c lo hi).rows.length = toT (ordL rs (t : Int) c) c hi - fromT (ordL rs (t : Int) c) c lo := by
  have := prove_nums hs t c lo hi hlh
  show (((ordL rs (t : Int) c).drop _).take _).length = _
  rw [List.length_take, List.length_drop]
  omega
theorem comp_prove {rs : List RowM} (hs : SortedR rs) (hn : rs.length ≤ 2000) (hok : ∀ r ∈ rs, r.ok) (t c : Nat) (ht : t ≤ 3) (hc : c ≤ 3) (lo hi : Int) (hlh : lo ≤ hi) : Comp (proveT rs t c lo hi) := by
  have h1 := first_mono hs t c lo hi hlh
  have h2 := first_le (geV c lo) (ordL rs (t : Int) c)
  have h3 := first_le (gtV c hi) (ordL rs (t : Int) c)
  have h4 := prove_nums hs t c lo hi hlh
  have h5 := prove_len hs t c lo hi hlh
  have hll := ordL_len hs (t : Int) c
  have hf : fromT (ordL rs (t : Int) c) c lo = firstN (geV c lo) (ordL rs (t : Int) c) - 1 := rfl
  have hto : toT (ordL rs (t : Int) c) c hi = min (firstN (gtV c hi) (ordL rs (t : Int) c) + 1) (ordL rs (t : Int) c).length := rfl
  have hv : ∀ r : RowM, valL r ((c : Nat) : Int) = valN r c := fun r => valL_N r c hc
  refine ⟨⟨⟨?_, ?_⟩, ?_, ?_⟩, hlh, ⟨?_, ?_⟩, ⟨?_, ?_⟩, ?_, ?_, ?_, ?_, ?_⟩
  · show (0 : Int) ≤ (t : Int); omega
  · show (t : Int) < 4; omega
  · show (0 : Int) ≤ (c : Int); omega
  · show (c : Int) < 4; omega
  · show (0 : Int) ≤ ((ordL rs (t : Int) c).length : Int); omega
  · show ((ordL rs (t : Int) c).length : Int) ≤ 2000; omega
  · show (0 : Int) ≤ ((fromT (ordL rs (t : Int) c) c lo : Nat) : Int); omega
  · show ((fromT (ordL rs (t : Int) c) c lo : Nat) : Int) ≤ ((ordL rs (t : Int) c).length : Int); omega
  · rw [h5]; show _ ≤ ((ordL rs (t : Int) c).length : Int) - ((fromT (ordL rs (t : Int) c) c lo : Nat) : Int); omega
  · rw [h5]; intro h0; show ((ordL rs (t : Int) c).length : Int) = 0; omega
  · intro j r hr
    obtain ⟨hj, hr2⟩ := slice_at hr
    have hm := ord_mem (List.mem_of_getElem? hr2)
    have hlo := lo_at hs t c lo hr2
    have hhi := hi_at hs t c hi hr2
    refine ⟨⟨hok r hm.1, hm.2, ?_, ?_⟩, ?_⟩
    · intro h; change valL r (c : Int) < lo at h; rw [hv] at h; omega
    · intro h; change hi < valL r (c : Int) at h; rw [hv] at h; rw [h5]; omega
    · intro hj0 q hq
      obtain ⟨_, hq2⟩ := slice_at hq
      have := at_lt (ord_strict hs (t : Int) c) (by omega) hq2 hr2
      unfold After
      show valL q (c : Int) < valL r (c : Int) ∨ valL q (c : Int) = valL r (c : Int) ∧ q.k < r.k
      rw [hv, hv]
      exact this
  · intro r hr
    obtain ⟨_, hr2⟩ := slice_at hr
    have hlo := lo_at hs t c lo hr2
    show ((fromT (ordL rs (t : Int) c) c lo : Nat) : Int) = 0 ∨ valL r (c : Int) < lo
    rw [hv]
    omega
  · intro r hr
    rw [h5] at hr ⊢
    obtain ⟨hj, hr2⟩ := slice_at hr
    have hhi := hi_at hs t c hi hr2
    show ((fromT (ordL rs (t : Int) c) c lo : Nat) : Int) + _ = ((ordL rs (t : Int) c).length : Int) ∨ hi < valL r (c : Int)
    rw [hv]
    omega
theorem ver_prove {rs : List RowM} (hs : SortedR rs) (hn : rs.length ≤ 2000) (hok : ∀ r ∈ rs, r.ok) (t c : Nat) (ht : t ≤ 3) (hc : c ≤ 3) (lo hi : Int) (hlh : lo ≤ hi) : VerP (rootS rs) (proveT rs t c lo hi) := by
  have h4 := prove_nums hs t c lo hi hlh
  have h5 := prove_len hs t c lo hi hlh
  refine ⟨comp_prove hs hn hok t c ht hc lo hi hlh, sumL_len rs, ?_, rfl, rootT (encL (ordL rs (t : Int) c)), root_len _, ?_, ?_, ?_⟩
  · rw [h5]; exact pathsT_len _ _ _
  · show (sumL rs)[4 * (t : Int).toNat + (c : Int).toNat]? = some (encI ((ordL rs (t : Int) c).length : Int) ++ _)
    rw [Int.toNat_natCast, Int.toNat_natCast]
    unfold sumL
    rw [List.getElem?_map, tc_at t (by omega) c (by omega)]
    rfl
  · intro h0
    change ((ordL rs (t : Int) c).length : Int) = 0 at h0
    rw [List.eq_nil_of_length_eq_zero (show (ordL rs (t : Int) c).length = 0 by omega)]; rfl
  · intro _ k r pf hr hp
    obtain ⟨hk, hr2⟩ := slice_at hr
    change (pathsT (ordL rs (t : Int) c) (fromT (ordL rs (t : Int) c) c lo) _)[k]? = some pf at hp
    unfold pathsT at hp
    rw [List.getElem?_map, List.getElem?_range hk] at hp
    injection hp with hp
    subst hp
    show verT _ ((ordL rs (t : Int) c).length : Int).toNat (((fromT (ordL rs (t : Int) c) c lo : Nat) : Int).toNat + k) _ _ = true
    rw [Int.toNat_natCast, Int.toNat_natCast, ← encL_len (ordL rs (t : Int) c)]
    refine ver_proof ?_
    unfold encL
    rw [List.getElem?_map, hr2]; rfl
theorem rows_prove {rs : List RowM} (hs : SortedR rs) (hn : rs.length ≤ 2000) (hok : ∀ r ∈ rs, r.ok) (t c : Nat) (ht : t ≤ 3) (hc : c ≤ 3) (lo hi : Int) (hlh : lo ≤ hi) : rowsT (proveT rs t c lo hi) = (ordL rs (t : Int) c).filter (inR (t : Int) c lo hi) := by
  have hcm := comp_prove hs hn hok t c ht hc lo hi hlh
  have h4 := prove_nums hs t c lo hi hlh
  have hf : fromT (ordL rs (t : Int) c) c lo = firstN (geV c lo) (ordL rs (t : Int) c) - 1 := rfl
  have hto : toT (ordL rs (t : Int) c) c hi = min (firstN (gtV c hi) (ordL rs (t : Int) c) + 1) (ordL rs (t : Int) c).length := rfl
  have hv : ∀ r : RowM, valL r ((c : Nat) : Int) = valN r c := fun r => valL_N r c hc
  rw [rows_t hcm]
  show (((ordL rs (t : Int) c).drop (fromT (ordL rs (t : Int) c) c lo)).take (toT (ordL rs (t : Int) c) c hi - fromT (ordL rs (t : Int) c) c lo)).filter _ = _
  have e : ordL rs (t : Int) c = (ordL rs (t : Int) c).take (fromT (ordL rs (t : Int) c) c lo) ++ (((ordL rs (t : Int) c).drop (fromT (ordL rs (t : Int) c) c lo)).take (toT (ordL rs (t : Int) c) c hi - fromT (ordL rs (t : Int) c) c lo) ++ (ordL rs (t : Int) c).drop (toT (ordL rs (t : Int) c) c hi)) := by
    have e1 : (ordL rs (t : Int) c).drop (toT (ordL rs (t : Int) c) c hi) = ((ordL rs (t : Int) c).drop (fromT (ordL rs (t : Int) c) c lo)).drop (toT (ordL rs (t : Int) c) c hi - fromT (ordL rs (t : Int) c) c lo) := by
      rw [List.drop_drop]; congr 1; omega
    rw [e1, List.take_append_drop, List.take_append_drop]
  conv => rhs; rw [e]
  rw [List.filter_append, List.filter_append]
  have z1 : ((ordL rs (t : Int) c).take (fromT (ordL rs (t : Int) c) c lo)).filter (inR (t : Int) c lo hi) = [] := by
    rw [List.filter_eq_nil_iff]
    intro r hr h9
    obtain ⟨i, hi9⟩ := List.getElem?_of_mem hr
    rw [List.getElem?_take] at hi9
    split at hi9
    · have := (lo_at hs t c lo hi9).2 (by omega)
      have := of_decide_eq_true h9
      omega
    · cases hi9
  have z2 : ((ordL rs (t : Int) c).drop (toT (ordL rs (t : Int) c) c hi)).filter (inR (t : Int) c lo hi) = [] := by
    rw [List.filter_eq_nil_iff]
    intro r hr h9
    obtain ⟨i, hi9⟩ := List.getElem?_of_mem hr
    rw [List.getElem?_drop] at hi9
    have hlt := (List.getElem?_eq_some_iff.1 hi9).1
    have := (hi_at hs t c hi hi9).1 (by omega)
    have := of_decide_eq_true h9
    omega
  rw [z1, z2, List.nil_append, List.append_nil]
  refine List.filter_congr ?_
  intro r hr
  have hm := ord_mem (List.mem_of_mem_drop (List.mem_of_mem_take hr))
  unfold inB inR
  show decide (lo ≤ valL r (c : Int) ∧ valL r (c : Int) ≤ hi) = _
  rw [hv]
  exact decide_eq_decide.2 ⟨fun h => ⟨hm.2, h⟩, fun h => h.2⟩
theorem filt_ord {rs : List RowM} (hs : SortedR rs) (hok : ∀ r ∈ rs, r.ok) (t c : Nat) (ht : t ≤ 3) (hc : c ≤ 3) (lo hi : Int) (hlh : lo ≤ hi) : (ordL rs (t : Int) c).filter (inR (t : Int) c lo hi) = rangeL rs (t : Int) c lo hi := by
  refine range_one hs ?_ ?_
  · have h1 := (rangeL_perm rs (t : Int) c (-1000000000) 1000000000).filter (inR (t : Int) c lo hi)
    refine h1.trans ?_
    rw [List.filter_filter]
    refine List.Perm.of_eq (List.filter_congr ?_)
    intro r hr
    obtain ⟨⟨h1, h2, h3⟩, h4, h5⟩ := hok r hr
    unfold inV at h1 h2 h3
    have hb : -1000000000 ≤ valN r c ∧ valN r c ≤ 1000000000 := by
      unfold valN
      split
      · omega
      · split
        · omega
        · split <;> omega
    unfold inR
    rw [← Bool.decide_and]
    exact decide_eq_decide.2 ⟨fun h => h.1, fun h => ⟨h, h.1, hb⟩⟩
  · exact (rangeL_sorted hs (t : Int) c (-1000000000) 1000000000).filter _
theorem rows_range {rs : List RowM} (hs : SortedR rs) (hn : rs.length ≤ 2000) (hok : ∀ r ∈ rs, r.ok) (t c : Nat) (ht : t ≤ 3) (hc : c ≤ 3) (lo hi : Int) (hlh : lo ≤ hi) : rowsT (proveT rs t c lo hi) = rangeL rs (t : Int) c lo hi := by rw [rows_prove hs hn hok t c ht hc lo hi hlh, filt_ord hs hok t c ht hc lo hi hlh]
end Go.Proofs.YtjeepldonhgohaaGreatDoor
