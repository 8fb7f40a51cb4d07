/- statetree: Verify. -/
/- What Prove returns is complete, right, and about the rows of the range: in plain words. -/
/- The integers that a law picks; the rows of a log. -/
/- The fixed example of the law of chapter 10: its rows, and its digests. -/
/- sane of the law of chapter 10. -/
/- What the rows list and what the arguments read as, in chunks. -/
import Derived.Test.YtkgmgmkbgnkdnaaGreatDoorEz
import Derived.Test.YtkgmgmkbgnkdnaaGreatDoorTr8
import Derived.Test.YtkgmgmkbgnkdnaaGreatDoorEx22
import Derived.Test.YtkgmgmkbgnkdnaaGreatDoorTr2
import Derived.ProofKit
import Derived.OpenShut
import Derived.ChangeOld
import Derived.Deep.Slices
import Derived.SliceStrings
import Derived.Lib.LaidTab
import Derived.Test.YtkgmgmkbgnkdnaaGreatDoorRows
namespace Go.Proofs.YtkgmgmkbgnkdnaaGreatDoor
open Go.Proofs.Tryz
open Go Go.RowKit Gw
set_option linter.unusedVariables false
set_option linter.unusedSimpArgs false
set_option maxRecDepth 100000
attribute [local irreducible] Gw.At Gw.Nx Gw.Ops
structure VerP (root : Bs) (x : RP) : Prop where
  comp : Comp x
  n16 : x.roots.length = 16
  np : x.paths.length = x.rows.length
  root : rootT x.roots = root
  sum : ∃ d : Bs, d.length = 32 ∧ x.roots[4 * x.tb.toNat + x.cl.toNat]? = some (encI x.ct ++ d) ∧ (x.ct = 0 → d = rootT []) ∧
    (x.ct ≠ 0 → ∀ (k : Nat) (r : RowM) (pf : List Bs), x.rows[k]? = some r → x.paths[k]? = some pf → verT d x.ct.toNat (x.fi.toNat + k) (encRow r) pf = true)
noncomputable instance (root : Bs) (x : RP) : Decidable (VerP root x) := Classical.propDecidable _
end Go.Proofs.YtkgmgmkbgnkdnaaGreatDoor

namespace Go.Proofs.YtkgmgmkbgnkdnaaGreatDoor
open Go.Proofs.Tryz
open Go Go.RowKit Gw
set_option linter.unusedVariables false
set_option linter.unusedSimpArgs false
set_option maxRecDepth 100000
attribute [local irreducible] Gw.At Gw.Nx Gw.Ops
theorem first_lt {pd : RowM → Bool} : ∀ {l : List RowM} {i : Nat} {x : RowM}, i < firstN pd l → l[i]? = some x → pd x = false
  | [], i, x, _, hx => by simp at hx
  | z :: l, i, x, hi, hx => by
    unfold firstN at hi
    rw [List.takeWhile_cons] at hi
    by_cases hz : pd z = true
    · rw [if_neg (by simp [hz])] at hi; simp at hi
    · have hz' : pd z = false := by simpa using hz
      rw [if_pos (by simp [hz'])] at hi
      rcases i with _ | i
      · simp at hx; rw [← hx]; exact hz'
      · simp only [List.getElem?_cons_succ] at hx
        exact first_lt (l := l) (by unfold firstN; simp at hi; omega) hx
theorem first_get {pd : RowM → Bool} : ∀ {l : List RowM} {x : RowM}, l[firstN pd l]? = some x → pd x = true
  | [], x, hx => by simp at hx
  | z :: l, x, hx => by
    unfold firstN at hx
    rw [List.takeWhile_cons] at hx
    by_cases hz : pd z = true
    · rw [if_neg (by simp [hz])] at hx; simp at hx; rw [← hx]; exact hz
    · have hz' : pd z = false := by simpa using hz
      rw [if_pos (by simp [hz'])] at hx
      simp only [List.length_cons, List.getElem?_cons_succ] at hx
      exact first_get (l := l) hx
def ltV (c : Nat) (a b : RowM) : Prop := valN a c < valN b c ∨ valN a c = valN b c ∧ a.k < b.k
theorem ord_strict {rs : List RowM} (hs : SortedR rs) (t : Int) (c : Nat) : (ordL rs t c).Pairwise (ltV c) := by
  have h1 := rangeL_sorted hs t c (-1000000000) 1000000000
  have h2 : (rs.filter (inR t c (-1000000000) 1000000000)).Pairwise (fun a b => a.k ≠ b.k) := (one_table hs fun r h => inR_t h).imp (fun h => by omega)
  have h3 : (rangeL rs t c (-1000000000) 1000000000).Pairwise (fun a b => a.k ≠ b.k) := ((rangeL_perm rs t c (-1000000000) 1000000000).pairwise_iff (fun h => h.symm)).2 h2
  exact (h1.and h3).imp (fun {a b} h => by unfold ltV; obtain ⟨h4, h5⟩ := h; unfold leV at h4; omega)
theorem at_lt {l : List RowM} {R : RowM → RowM → Prop} (h : l.Pairwise R) {i j : Nat} {a b : RowM} (hij : i < j) (ha : l[i]? = some a) (hb : l[j]? = some b) : R a b := by
  obtain ⟨hi, rfl⟩ := List.getElem?_eq_some_iff.1 ha
  obtain ⟨hj, rfl⟩ := List.getElem?_eq_some_iff.1 hb
  exact List.pairwise_iff_getElem.1 h i j hi hj hij
theorem ord_mono {rs : List RowM} (hs : SortedR rs) {t : Int} {c i j : Nat} {a b : RowM} (hij : i ≤ j) (ha : (ordL rs t c)[i]? = some a) (hb : (ordL rs t c)[j]? = some b) : valN a c ≤ valN b c := by
  rcases Nat.eq_or_lt_of_le hij with rfl | h
  · rw [ha] at hb; injection hb with hb; rw [hb]; exact Int.le_refl _
  · have := at_lt (ord_strict hs t c) h ha hb
    unfold ltV at this; omega
theorem lo_at {rs : List RowM} (hs : SortedR rs) (t c : Nat) (lo : Int) {i : Nat} {r : RowM} (hr : (ordL rs (t : Int) c)[i]? = some r) : (firstN (geV c lo) (ordL rs (t : Int) c) ≤ i → lo ≤ valN r c) ∧ (i < firstN (geV c lo) (ordL rs (t : Int) c) → valN r c < lo) := by
  constructor
  · intro h
    have hlt := (List.getElem?_eq_some_iff.1 hr).1
    have hx : (ordL rs (t : Int) c)[firstN (geV c lo) (ordL rs (t : Int) c)]? = some _ := List.getElem?_eq_getElem (by omega)
    have h1 := of_decide_eq_true (first_get hx)
    have h2 := ord_mono hs h hx hr
    omega
  · intro h
    have := of_decide_eq_false (first_lt h hr)
    omega
theorem hi_at {rs : List RowM} (hs : SortedR rs) (t c : Nat) (hi : Int) {i : Nat} {r : RowM} (hr : (ordL rs (t : Int) c)[i]? = some r) : (firstN (gtV c hi) (ordL rs (t : Int) c) ≤ i → hi < valN r c) ∧ (i < firstN (gtV c hi) (ordL rs (t : Int) c) → valN r c ≤ hi) := by
  constructor
  · intro h
    have hlt := (List.getElem?_eq_some_iff.1 hr).1
    have hx : (ordL rs (t : Int) c)[firstN (gtV c hi) (ordL rs (t : Int) c)]? = some _ := List.getElem?_eq_getElem (by omega)
    have h1 := of_decide_eq_true (first_get hx)
    have h2 := ord_mono hs h hx hr
    omega
  · intro h
    have := of_decide_eq_false (first_lt h hr)
    omega
theorem first_mono {rs : List RowM} (hs : SortedR rs) (t c : Nat) (lo hi : Int) (hlh : lo ≤ hi) : firstN (geV c lo) (ordL rs (t : Int) c) ≤ firstN (gtV c hi) (ordL rs (t : Int) c) := by
  rcases Nat.lt_or_ge (firstN (gtV c hi) (ordL rs (t : Int) c)) (firstN (geV c lo) (ordL rs (t : Int) c)) with h | h
  · have h9 := first_le (geV c lo) (ordL rs (t : Int) c)
    have hx : (ordL rs (t : Int) c)[firstN (gtV c hi) (ordL rs (t : Int) c)]? = some _ := List.getElem?_eq_getElem (by omega)
    have h1 := (hi_at hs t c hi hx).1 (Nat.le_refl _)
    have h2 := (lo_at hs t c lo hx).2 h
    omega
  · exact h
theorem slice_at {l : List RowM} {f m j : Nat} {r : RowM} (h : ((l.drop f).take m)[j]? = some r) : j < m ∧ l[f + j]? = some r := by
  rw [List.getElem?_take] at h
  split at h
  · rw [List.getElem?_drop] at h; exact ⟨by assumption, h⟩
  · cases h
theorem ord_mem {rs : List RowM} {t : Int} {c : Nat} {r : RowM} (h : r ∈ ordL rs t c) : r ∈ rs ∧ r.t = t := by
  have := List.mem_filter.1 ((rangeL_perm rs t c _ _).mem_iff.1 h)
  exact ⟨this.1, inR_t this.2⟩
theorem prove_nums {rs : List RowM} (hs : SortedR rs) (t c : Nat) (lo hi : Int) (hlh : lo ≤ hi) : fromT (ordL rs (t : Int) c) c lo ≤ toT (ordL rs (t : Int) c) c hi ∧ toT (ordL rs (t : Int) c) c hi ≤ (ordL rs (t : Int) c).length ∧ (0 < (ordL rs (t : Int) c).length → fromT (ordL rs (t : Int) c) c lo < toT (ordL rs (t : Int) c) c hi) := by
  have h1 := first_mono hs t c lo hi hlh
  have h2 := first_le (geV c lo) (ordL rs (t : Int) c)
  have h3 := first_le (gtV c hi) (ordL rs (t : Int) c)
  unfold fromT toT
  omega
theorem prove_len {rs : List RowM} (hs : SortedR rs) (t c : Nat) (lo hi : Int) (hlh : lo ≤ hi) : (proveT rs t c lo hi).rows.length = toT (ordL rs (t : Int) c) c hi - fromT (ordL rs (t : Int) c) c lo := by
  have := prove_nums hs t c lo hi hlh
  show (((ordL rs (t : Int) c).drop _).take _).length = _
  rw [List.length_take, List.length_drop]
  omega
theorem comp_prove {rs : List RowM} (hs : SortedR rs) (hn : rs.length ≤ 2000) (hok : ∀ r ∈ rs, r.ok) (t c : Nat) (ht : t ≤ 3) (hc : c ≤ 3) (lo hi : Int) (hlh : lo ≤ hi) : Comp (proveT rs t c lo hi) := by
  have h1 := first_mono hs t c lo hi hlh
  have h2 := first_le (geV c lo) (ordL rs (t : Int) c)
  have h3 := first_le (gtV c hi) (ordL rs (t : Int) c)
  have h4 := prove_nums hs t c lo hi hlh
  have h5 := prove_len hs t c lo hi hlh
  have hll := ordL_len hs (t : Int) c
  have hf : fromT (ordL rs (t : Int) c) c lo = firstN (geV c lo) (ordL rs (t : Int) c) - 1 := rfl
  have hto : toT (ordL rs (t : Int) c) c hi = min (firstN (gtV c hi) (ordL rs (t : Int) c) + 1) (ordL rs (t : Int) c).length := rfl
  have hv : ∀ r : RowM, valL r ((c : Nat) : Int) = valN r c := fun r => valL_N r c hc
  refine ⟨⟨⟨?_, ?_⟩, ?_, ?_⟩, hlh, ⟨?_, ?_⟩, ⟨?_, ?_⟩, ?_, ?_, ?_, ?_, ?_⟩
  · show (0 : Int) ≤ (t : Int); omega
  · show (t : Int) < 4; omega
  · show (0 : Int) ≤ (c : Int); omega
  · show (c : Int) < 4; omega
  · show (0 : Int) ≤ ((ordL rs (t : Int) c).length : Int); omega
  · show ((ordL rs (t : Int) c).length : Int) ≤ 2000; omega
  · show (0 : Int) ≤ ((fromT (ordL rs (t : Int) c) c lo : Nat) : Int); omega
  · show ((fromT (ordL rs (t : Int) c) c lo : Nat) : Int) ≤ ((ordL rs (t : Int) c).length : Int); omega
  · rw [h5]; show _ ≤ ((ordL rs (t : Int) c).length : Int) - ((fromT (ordL rs (t : Int) c) c lo : Nat) : Int); omega
  · rw [h5]; intro h0; show ((ordL rs (t : Int) c).length : Int) = 0; omega
  · intro j r hr
    obtain ⟨hj, hr2⟩ := slice_at hr
    have hm := ord_mem (List.mem_of_getElem? hr2)
    have hlo := lo_at hs t c lo hr2
    have hhi := hi_at hs t c hi hr2
    refine ⟨⟨hok r hm.1, hm.2, ?_, ?_⟩, ?_⟩
    · intro h; change valL r (c : Int) < lo at h; rw [hv] at h; omega
    · intro h; change hi < valL r (c : Int) at h; rw [hv] at h; rw [h5]; omega
    · intro hj0 q hq
      obtain ⟨_, hq2⟩ := slice_at hq
      have := at_lt (ord_strict hs (t : Int) c) (by omega) hq2 hr2
      unfold After
      show valL q (c : Int) < valL r (c : Int) ∨ valL q (c : Int) = valL r (c : Int) ∧ q.k < r.k
      rw [hv, hv]
      exact this
  · intro r hr
    obtain ⟨_, hr2⟩ := slice_at hr
    have hlo := lo_at hs t c lo hr2
    show ((fromT (ordL rs (t : Int) c) c lo : Nat) : Int) = 0 ∨ valL r (c : Int) < lo
    rw [hv]
    omega
  · intro r hr
    rw [h5] at hr ⊢
    obtain ⟨hj, hr2⟩ := slice_at hr
    have hhi := hi_at hs t c hi hr2
    show ((fromT (ordL rs (t : Int) c) c lo : Nat) : Int) + _ = ((ordL rs (t : Int) c).length : Int) ∨ hi < valL r (c : Int)
    rw [hv]
    omega
theorem rows_prove {rs : List RowM} (hs : SortedR rs) (hn : rs.length ≤ 2000) (hok : ∀ r ∈ rs, r.ok) (t c : Nat) (ht : t ≤ 3) (hc : c ≤ 3) (lo hi : Int) (hlh : lo ≤ hi) : rowsT (proveT rs t c lo hi) = (ordL rs (t : Int) c).filter (inR (t : Int) c lo hi) := by
  have hcm := comp_prove hs hn hok t c ht hc lo hi hlh
  have h4 := prove_nums hs t c lo hi hlh
  have hf : fromT (ordL rs (t : Int) c) c lo = firstN (geV c lo) (ordL rs (t : Int) c) - 1 := rfl
  have hto : toT (ordL rs (t : Int) c) c hi = min (firstN (gtV c hi) (ordL rs (t : Int) c) + 1) (ordL rs (t : Int) c).length := rfl
  have hv : ∀ r : RowM, valL r ((c : Nat) : Int) = valN r c := fun r => valL_N r c hc
  rw [rows_t hcm]
  show (((ordL rs (t : Int) c).drop (fromT (ordL rs (t : Int) c) c lo)).take (toT (ordL rs (t : Int) c) c hi - fromT (ordL rs (t : Int) c) c lo)).filter _ = _
  have e : ordL rs (t : Int) c = (ordL rs (t : Int) c).take (fromT (ordL rs (t : Int) c) c lo) ++ (((ordL rs (t : Int) c).drop (fromT (ordL rs (t : Int) c) c lo)).take (toT (ordL rs (t : Int) c) c hi - fromT (ordL rs (t : Int) c) c lo) ++ (ordL rs (t : Int) c).drop (toT (ordL rs (t : Int) c) c hi)) := by
    have e1 : (ordL rs (t : Int) c).drop (toT (ordL rs (t : Int) c) c hi) = ((ordL rs (t : Int) c).drop (fromT (ordL rs (t : Int) c) c lo)).drop (toT (ordL rs (t : Int) c) c hi - fromT (ordL rs (t : Int) c) c lo) := by
      rw [List.drop_drop]; congr 1; omega
    rw [e1, List.take_append_drop, List.take_append_drop]
  conv => rhs; rw [e]
  rw [List.filter_append, List.filter_append]
  have z1 : ((ordL rs (t : Int) c).take (fromT (ordL rs (t : Int) c) c lo)).filter (inR (t : Int) c lo hi) = [] := by
    rw [List.filter_eq_nil_iff]
    intro r hr h9
    obtain ⟨i, hi9⟩ := List.getElem?_of_mem hr
    rw [List.getElem?_take] at hi9
    split at hi9
    · have := (lo_at hs t c lo hi9).2 (by omega)
      have := of_decide_eq_true h9
      omega
    · cases hi9
  have z2 : ((ordL rs (t : Int) c).drop (toT (ordL rs (t : Int) c) c hi)).filter (inR (t : Int) c lo hi) = [] := by
    rw [List.filter_eq_nil_iff]
    intro r hr h9
    obtain ⟨i, hi9⟩ := List.getElem?_of_mem hr
    rw [List.getElem?_drop] at hi9
    have hlt := (List.getElem?_eq_some_iff.1 hi9).1
    have := (hi_at hs t c hi hi9).1 (by omega)
    have := of_decide_eq_true h9
    omega
  rw [z1, z2, List.nil_append, List.append_nil]
  refine List.filter_congr ?_
  intro r hr
  have hm := ord_mem (List.mem_of_mem_drop (List.mem_of_mem_take hr))
  unfold inB inR
  show decide (lo ≤ valL r (c : Int) ∧ valL r (c : Int) ≤ hi) = _
  rw [hv]
  exact decide_eq_decide.2 ⟨fun h => ⟨hm.2, h⟩, fun h => h.2⟩
theorem filt_ord {rs : List RowM} (hs : SortedR rs) (hok : ∀ r ∈ rs, r.ok) (t c : Nat) (ht : t ≤ 3) (hc : c ≤ 3) (lo hi : Int) (hlh : lo ≤ hi) : (ordL rs (t : Int) c).filter (inR (t : Int) c lo hi) = rangeL rs (t : Int) c lo hi := by
  refine range_one hs ?_ ?_
  · have h1 := (rangeL_perm rs (t : Int) c (-1000000000) 1000000000).filter (inR (t : Int) c lo hi)
    refine h1.trans ?_
    rw [List.filter_filter]
    refine List.Perm.of_eq (List.filter_congr ?_)
    intro r hr
    obtain ⟨⟨h1, h2, h3⟩, h4, h5⟩ := hok r hr
    unfold inV at h1 h2 h3
    have hb : -1000000000 ≤ valN r c ∧ valN r c ≤ 1000000000 := by
      unfold valN
      split
      · omega
      · split
        · omega
        · split <;> omega
    unfold inR
    rw [← Bool.decide_and]
    exact decide_eq_decide.2 ⟨fun h => h.1, fun h => ⟨h, h.1, hb⟩⟩
  · exact (rangeL_sorted hs (t : Int) c (-1000000000) 1000000000).filter _
theorem rows_range {rs : List RowM} (hs : SortedR rs) (hn : rs.length ≤ 2000) (hok : ∀ r ∈ rs, r.ok) (t c : Nat) (ht : t ≤ 3) (hc : c ≤ 3) (lo hi : Int) (hlh : lo ≤ hi) : rowsT (proveT rs t c lo hi) = rangeL rs (t : Int) c lo hi := by rw [rows_prove hs hn hok t c ht hc lo hi hlh, filt_ord hs hok t c ht hc lo hi hlh]
end Go.Proofs.YtkgmgmkbgnkdnaaGreatDoor

namespace Go.Proofs.YtkgmgmkbgnkdnaaGreatDoor
open Go.Proofs.Tryz
open Go Go.RowKit Gw
set_option linter.unusedVariables false
set_option linter.unusedSimpArgs false
set_option maxRecDepth 100000
attribute [local irreducible] Gw.At Gw.Nx Gw.Ops
def pickN (c : Int) (n : Nat) : Nat := ((if c < 0 then -(c + 1) else c).tmod n).toNat
theorem pickN_lt (c : Int) (n : Nat) (hn : 0 < n) : pickN c n < n := by
  unfold pickN
  have h1 : 0 ≤ (if c < 0 then -(c + 1) else c) := by split <;> omega
  have h2 := Int.tmod_lt_of_pos (if c < 0 then -(c + 1) else c) (b := (n : Int)) (by omega)
  have h3 := Int.tmod_nonneg (n : Int) h1
  omega
theorem pickN_eq (c : Int) (n : Nat) : (if c < 0 then -(c + 1) else c).tmod n = (pickN c n : Int) := by
  unfold pickN
  have h1 : 0 ≤ (if c < 0 then -(c + 1) else c) := by split <;> omega
  have h3 := Int.tmod_nonneg (n : Int) h1
  omega
theorem put_mem {rs : List RowM} {c : Chg} {x : RowM} (h : x ∈ putL rs c) : x ∈ rs ∨ (c.has = true ∧ x = ⟨c.t, c.k, c.n⟩) := by
  unfold putL at h
  rcases List.mem_append.1 h with h | h
  · rcases List.mem_append.1 h with h | h
    · exact .inl (List.mem_of_mem_take h)
    · exact .inr (newC_mem.1 h)
  · exact .inl (List.mem_of_mem_drop (List.mem_of_mem_drop h))
theorem chg_row {c : Chg} (h : c.ok) (hh : c.has = true) : RowM.ok ⟨c.t, c.k, c.n⟩ := by
  obtain ⟨_, h2, _⟩ := h
  rw [after_t hh] at h2
  exact Classical.not_not.1 fun h9 => h2 (.inr ⟨hh, h9⟩)
theorem putAll_ok : ∀ (cs : List Chg) (rs : List RowM), (∀ r ∈ rs, r.ok) → (∀ c ∈ cs, c.ok) → ∀ r ∈ putAllR rs cs, r.ok
  | [], rs, h, _ => h
  | c :: cs, rs, h, hc => by
    have h1 : ∀ r ∈ putL rs c, r.ok := fun r hr => by
      rcases put_mem hr with hr | ⟨hh, rfl⟩
      · exact h r hr
      · exact chg_row (hc c (by simp)) hh
    exact putAll_ok cs (putL rs c) h1 (fun c hc9 => hc c (by simp [hc9]))
theorem LogOk.rowsOk {l : List RecM} (h : LogOk l) : ∀ i, i ≤ l.length → ∀ r ∈ rowsOf (l.take i), r.ok
  | 0, _ => by intro r hr; simp [rowsOf] at hr
  | i + 1, hi => by
    obtain ⟨r, hr⟩ : ∃ r, l[i]? = some r := ⟨_, List.getElem?_eq_getElem (by omega)⟩
    rw [take_snoc hr, rowsOf_snoc]
    refine putAll_ok _ _ (LogOk.rowsOk h i (by omega)) fun c hc => ?_
    obtain ⟨j, hj⟩ := List.getElem?_of_mem hc
    exact (h i r hr).1.ok.all j c hj
theorem six_take {M : List Chunk} {p : Option Addr} {n cap : Nat} {xs : List (List Int)} (h : SixIn M (.slice p n cap) xs) (k : Nat) (hk : k ≤ n) : SixIn M (.slice p k cap) (xs.take k) := by
  obtain ⟨p9, cap9, e, hl, hg⟩ := h
  injection e with e1 e2 e3
  subst e1 e2 e3
  have e4 : (xs.take k).length = k := by rw [List.length_take]; exact Nat.min_eq_left hk
  refine ⟨p, cap, by rw [e4], by omega, fun i z hz => hg i z ?_⟩
  rw [List.getElem?_take] at hz
  split at hz
  · exact hz
  · cases hz

end Go.Proofs.YtkgmgmkbgnkdnaaGreatDoor

namespace Go.Proofs.YtkgmgmkbgnkdnaaGreatDoor
open Go.Proofs.Tryz
open Go Go.RowKit Gw
set_option linter.unusedVariables false
set_option linter.unusedSimpArgs false
set_option maxRecDepth 100000
attribute [local irreducible] Gw.At Gw.Nx Gw.Ops
def cs0 : List Chg := [⟨0, 3, false, V3.zero, true, ⟨10, 0, 0⟩⟩, ⟨0, 5, false, V3.zero, true, ⟨10, 21, 30⟩⟩]
def RP.cut (x : RP) : RP := ⟨x.tb, x.cl, x.lo, x.hi, x.ct, x.fi, x.rows.drop 1, x.paths.drop 1, x.roots⟩
end Go.Proofs.YtkgmgmkbgnkdnaaGreatDoor

namespace Go.Proofs.YtkgmgmkbgnkdnaaGreatDoor
open Go.Proofs.Tryz
open Go Go.RowKit Gw
set_option linter.unusedVariables false
set_option linter.unusedSimpArgs false
set_option maxRecDepth 100000
attribute [local irreducible] Gw.At Gw.Nx Gw.Ops
theorem rows_c {M : List Chunk} {v : Value} {x : RP} (hv : RPIn M v x) (h : Comp x) {l : List RowM} (hl : rowsT x = l) : Does Tryz.prog 65 #[v] [M] (fun r H' => ∃ vr sr, r = .tuple #[vr, .bool true] ∧ RowS 5 67 vr l.length (rowCells l) sr ∧ H' = [sr, M]) := by
  have h1 := rows_spec hv
  rw [decide_eq_true h, hl] at h1
  exact h1
theorem RPIn.mono {M M' : List Chunk} {v : Value} {x : RP} (h : RPIn M v x) (hm : ∀ c ∈ M, c ∈ M') : RPIn M' v x := by
  obtain ⟨vr, vp, vt, e, h1, h2, h3⟩ := h
  exact ⟨vr, vp, vt, e, h1.mono hm, h2.mono hm, h3.mono hm⟩
end Go.Proofs.YtkgmgmkbgnkdnaaGreatDoor


namespace Go.Proofs.YtkgmgmkbgnkdnaaGreatDoor
open Go.Proofs.Tryz
open Go Go.RowKit Gw
set_option linter.unusedVariables false
set_option linter.unusedSimpArgs false
set_option maxRecDepth 100000
attribute [local irreducible] Gw.At Gw.Nx Gw.Ops
open Go.ChangeShapes Go.WideShapes Go.Deep
theorem adr0 (ad : Addr) : ad.add 0 = ad := by simp [Addr.add]
theorem adr_spot {w : World} {a : Addr} {v : Value} (h : w.cell? a = some v) : a = ⟨a.block, a.off, none⟩ := by
  cases a with | mk b o s =>
  cases s with
  | none => rfl
  | some s =>
    simp only [World.cell?] at h
    split at h <;> simp at h
theorem cell_heap {w : World} {g i : Nat} {v : Value} (h : w.cell? ⟨g, i, none⟩ = some v) : ∃ cur T z, w.heap[g]? = some (.cells cur T z) ∧ cur[i]? = some v := by
  unfold World.cell? at h
  simp only at h
  split at h
  · rename_i c T z hc
    exact ⟨c, T, z, hc, by simpa using h⟩
  · cases h
section
variable {H : Type} {enc : TypeId × Value → H} {P : Program} {w : World} {base : Nat} {held : Bool}
end
def wholeL (w : World) : List Chunk := (List.range w.heap.size).filterMap fun b => (w.heap[b]?).map fun o => (b, o)
theorem mem_whole {w : World} {b : Nat} {o : Obj} : (b, o) ∈ wholeL w ↔ w.heap[b]? = some o := by
  unfold wholeL
  rw [List.mem_filterMap]
  constructor
  · rintro ⟨a, _, ha⟩
    obtain ⟨o', h1, h2⟩ := Option.map_eq_some_iff.1 ha
    injection h2 with e1 e2
    subst e1 e2
    exact h1
  · intro h
    refine ⟨b, ?_, by rw [h]; rfl⟩
    rw [List.mem_range]
    rcases Nat.lt_or_ge b w.heap.size with h1 | h1
    · exact h1
    · simp [Array.getElem?_eq_none h1] at h
theorem whole_keys (w : World) : ((wholeL w).map (·.1)).Nodup := by
  have : ∀ l : List Nat, ((l.filterMap fun b => (w.heap[b]?).map fun o => (b, o)).map (·.1)).Sublist l := by
    intro l
    induction l with
    | nil => simp
    | cons a l ih =>
      rw [List.filterMap_cons]
      cases h : w.heap[a]? with
      | none => simp only [Option.map_none]; exact ih.cons a
      | some o => simp only [Option.map_some, List.map_cons]; exact ih.cons_cons a
  exact List.Nodup.sublist (this _) List.nodup_range
def restL (w : World) (ks : List Nat) : List Chunk := (wholeL w).filter fun c => !ks.contains c.1
theorem mem_rest {w : World} {ks : List Nat} {b : Nat} {o : Obj} (h : w.heap[b]? = some o) (hk : b ∉ ks) : (b, o) ∈ restL w ks := by
  unfold restL
  rw [List.mem_filter]
  exact ⟨mem_whole.2 h, by simp [hk]⟩
theorem law_below {P : Program} {f : FuncId} {args : Array Value} {v : Value} {w : World} (L : List Chunk) (hL : ∀ c ∈ L, w.heap[c.1]? = some c.2) (hn : (L.map (·.1)).Nodup) {H : Hp} (hH : H.flatten = L ++ restL w (L.map (·.1))) (h : DoesR P f args H v) :
    Calls P f args w fun e w' => e = .returned v ∧ Below w.heap.size w w' := by
  have hsat : Sat w (H ++ []) w := by
    refine ⟨rfl, rfl, rfl, ?_, ?_⟩
    · rw [List.append_nil, hH, List.map_append, List.nodup_append]
      refine ⟨hn, ?_, ?_⟩
      · exact List.Nodup.sublist (List.filter_sublist.map _) (whole_keys w)
      · intro a ha b hb e
        subst e
        obtain ⟨c, hc, rfl⟩ := List.mem_map.1 hb
        unfold restL at hc
        have := (List.mem_filter.1 hc).2
        simp only [Bool.not_eq_true', List.contains_eq_mem, decide_eq_false_iff_not] at this
        exact this ha
    · intro p hp
      rw [List.append_nil, hH, List.mem_append] at hp
      rcases hp with hp | hp
      · exact hL p hp
      · exact mem_whole.1 (List.mem_filter.1 hp).1
  refine Calls.mono (h w [] w hsat) fun e w' he => ?_
  rcases he with ⟨v', H', rfl, ⟨rfl, rfl⟩, hs⟩ | ⟨_, _, _, hf, _⟩
  · refine ⟨rfl, hs.os, hs.tape, hs.output, ?_, ?_⟩
    · rcases Nat.eq_zero_or_pos w.heap.size with h0 | h0
      · omega
      · have hlt : w.heap.size - 1 < w.heap.size := by omega
        have hg : w.heap[w.heap.size - 1]? = some w.heap[w.heap.size - 1] := Array.getElem?_eq_getElem hlt
        have : w'.heap[w.heap.size - 1]? = some w.heap[w.heap.size - 1] := by
          by_cases hk : (w.heap.size - 1) ∈ L.map (·.1)
          · obtain ⟨c, hc, hk⟩ := List.mem_map.1 hk
            have h1 := hs.get c (by rw [List.append_nil, hH]; exact List.mem_append_left _ hc)
            have h2 := hL c hc
            rw [hk] at h1 h2
            rw [h1, ← h2, hg]
          · exact hs.get (_, _) (by rw [List.append_nil, hH]; exact List.mem_append_right _ (mem_rest hg hk))
        rcases Nat.lt_or_ge (w.heap.size - 1) w'.heap.size with h1 | h1
        · omega
        · rw [Array.getElem?_eq_none h1] at this; cases this
    · intro k hk
      have hg : w.heap[k]? = some w.heap[k] := Array.getElem?_eq_getElem hk
      by_cases hm : k ∈ L.map (·.1)
      · obtain ⟨c, hc, rfl⟩ := List.mem_map.1 hm
        have h1 := hs.get c (by rw [List.append_nil, hH]; exact List.mem_append_left _ hc)
        rw [h1, hL c hc]
      · rw [hg]
        exact hs.get (_, _) (by rw [List.append_nil, hH]; exact List.mem_append_right _ (mem_rest hg hm))
  · exact hf.elim

theorem var_heap {P : Program} {w : World} {n : String} {g : Nat} {cs : Array Value} (hg : P.globalNamed n = some g) (h : w.var? P n = some cs) : ∃ T z, w.heap[g]? = some (.cells cs T z) := by
  unfold World.var? at h
  rw [hg, Option.bind_some] at h
  split at h
  · rename_i c T z hc
    injection h with e
    subst e
    exact ⟨T, z, hc⟩
  · cases h

theorem gRound : Tryz.prog.globalNamed "cachetier/digest.round" = some 1 := by kernel_rfl
theorem tRound : (Tryz.prog.globals[1]?).map (·.type) = some 265 := by kernel_rfl
theorem c32 : Tryz.prog.cellsOf 198 = 1 := by kernel_rfl
theorem cTab : Tryz.prog.cellsOf 265 = 64 := by kernel_rfl
def roundZ : List Int := kTab.map fun x => (x.toNat : Int)
theorem round_data : (Rows.laid_cachetier_digest_round : DataW Unit) = Lib.tabData .u32 roundZ := by kernel_rfl
theorem round_cells : (roundZ.map fun z => Value.int .u32 z).toArray = (kTab.map u32v).toArray := by kernel_rfl
theorem of_laid1 {r : List (String × DataW Unit)} {W : World} (h : laidMet Tryz.prog (("cachetier/digest.round", Rows.laid_cachetier_digest_round) :: r) W) :
    ∃ Tg zg, W.heap[1]? = some (.cells (kTab.map u32v).toArray Tg zg) := by
  rw [round_data] at h
  have h2 := Lib.tabIs_of_head gRound tRound underlying265 underlying198 c32 cTab h
  unfold Lib.TabIs at h2
  rw [round_cells] at h2
  obtain ⟨Tg, zg, hb⟩ := var_heap gRound h2
  exact ⟨Tg, zg, hb⟩
def isArg : Value → Bool
  | .string _ => true
  | .slice _ _ _ => true
  | .bool _ => true
  | .int .i64 _ => true
  | _ => false
theorem glob_ne1 {W : World} {Tg : TypeId} {zg : Nat × Nat} (h4 : W.heap[1]? = some (.cells (kTab.map u32v).toArray Tg zg))
    {g i : Nat} {cur : Array Value} {T : TypeId} {z : Nat × Nat} (hb : W.heap[g]? = some (.cells cur T z)) {y : Value} (hc : cur[i]? = some y) (ha : isArg y = true) : g ∉ [1] := by
  intro hm
  simp only [List.mem_cons, List.not_mem_nil, or_false] at hm
  subst hm
  rw [h4] at hb
  injection hb with e
  injection e with e1 _ _
  subst e1
  rw [List.getElem?_toArray, List.getElem?_map] at hc
  obtain ⟨u, _, rfl⟩ := Option.map_eq_some_iff.1 hc
  simp [u32v, isArg] at ha
theorem law_at1 {f : FuncId} {args : Array Value} {v : Value} {W : World} {Tg : TypeId} {zg : Nat × Nat} (h4 : W.heap[1]? = some (.cells (kTab.map u32v).toArray Tg zg))
    (h : DoesR Tryz.prog f args [[(1, .cells (kTab.map u32v).toArray Tg zg)], restL W [1]] v) :
    Calls Tryz.prog f args W fun e w' => e = .returned v ∧ Below W.heap.size W w' :=
  law_below [(1, .cells (kTab.map u32v).toArray Tg zg)] (by
    intro c hc
    simp only [List.mem_cons, List.not_mem_nil, or_false] at hc
    subst hc; exact h4) (by simp) (by simp) h
theorem list_choose {α : Type} : ∀ (n : Nat) (p : Nat → α → Prop), (∀ i, i < n → ∃ o, p i o) → ∃ os : List α, os.length = n ∧ ∀ i o, os[i]? = some o → p i o
  | 0, _, _ => ⟨[], rfl, fun i o h => by cases h⟩
  | n + 1, p, h => by
    obtain ⟨os, h1, h2⟩ := list_choose n p (fun i hi => h i (by omega))
    obtain ⟨o, ho⟩ := h n (by omega)
    refine ⟨os ++ [o], by simp [h1], fun i o' hi => ?_⟩
    rw [List.getElem?_append] at hi
    split at hi
    · exact h2 i o' hi
    · rename_i hlt
      have : i = n := by
        have := (List.getElem?_eq_some_iff.1 hi).1
        simp at this; omega
      subst this
      rw [h1, Nat.sub_self] at hi
      simp only [List.getElem?_cons_zero, Option.some.injEq] at hi
      subst hi; exact ho
section
variable {H : Type} {enc : TypeId × Value → H} {P : Program} {W : World} {base : Nat} {held : Bool}
theorem open_cells {t e : TypeId} {s fuel : Nat} {cs : List Value} {x : DataW H × List MemPlace} (ht : P.underlying t = some (.slice e)) (hc : P.cellsOf e = s) (hs : 0 < s) (h : DataW.trod enc P W base (fun _ => true) held fuel t cs = some x) :
    ∃ p len cap, cs = [.slice p len cap] ∧ (len ≤ maxLen ∧ len ≤ cap) ∧ ∀ i, i < len → ∃ cs' n z, cs'.length = s ∧ DataW.trod enc P W base (fun _ => true) held n e cs' = some z ∧
      ∃ g o cur T zz, p = some ⟨g, o, none⟩ ∧ W.heap[g]? = some (.cells cur T zz) ∧ ∀ j, j < s → cur[o + i * s + j]? = cs'[j]? := by
  rcases open_slice ht h with ⟨rfl, _⟩ | ⟨a, len, cap, m, n, D, Pl, rfl, _, hl, hm, hmm, _, hel⟩
  · exact ⟨none, 0, 0, rfl, ⟨Nat.zero_le _, Nat.le_refl _⟩, fun i hi => by omega⟩
  · simp only [if_true] at hmm
    subst hmm
    refine ⟨some a, len, m, rfl, ⟨by omega, hl⟩, fun i hi => ?_⟩
    have hsp2 : a = ⟨a.block, a.off, none⟩ := by
      obtain ⟨cs0, g1, _⟩ := hel 0 (by omega)
      rw [hc] at g1
      obtain ⟨_, glen, gg⟩ := World.cells?_some g1
      have g9 := gg 0 hs
      rw [List.getElem?_eq_getElem (l := cs0) (i := 0) (by omega), Nat.zero_mul, adr0, adr0] at g9
      exact adr_spot g9
    obtain ⟨cs', h1, h2⟩ := hel i (by omega)
    rw [hc] at h1
    obtain ⟨_, hlen, hg⟩ := World.cells?_some h1
    refine ⟨cs', n, _, hlen, h2, ?_⟩
    have h9 := hg 0 hs
    rw [List.getElem?_eq_getElem (l := cs') (i := 0) (by omega), hsp2, add_addr, add_addr] at h9
    obtain ⟨cur, T, zz, hb, _⟩ := cell_heap h9
    refine ⟨a.block, a.off, cur, T, zz, by rw [← hsp2], hb, fun j hj => ?_⟩
    have h8 := hg j hj
    rw [List.getElem?_eq_getElem (l := cs') (i := j) (by omega)] at h8 ⊢
    rw [hsp2, add_addr, add_addr] at h8
    obtain ⟨cur2, T2, zz2, hb2, hc2⟩ := cell_heap h8
    rw [hb] at hb2
    injection hb2 with e
    injection e with e1 _ _
    rw [e1]; exact hc2
end

theorem cInt : Tryz.prog.cellsOf 3 = 1 := by kernel_rfl
theorem cSix : Tryz.prog.cellsOf 65 = 6 := by kernel_rfl

theorem open_sixes1 {H : Type} {enc : TypeId × Value → H} {W : World} {base : Nat} {held : Bool} {Tg : TypeId} {zg : Nat × Nat} (h4 : W.heap[1]? = some (.cells (kTab.map u32v).toArray Tg zg)) {fuel : Nat} {cs : List Value} {x : DataW H × List MemPlace} (h : DataW.trod enc Tryz.prog W base (fun _ => true) held fuel 22 cs = some x) :
    ∃ v xs, cs = [v] ∧ SixIn (restL W [1]) v xs := by
  obtain ⟨p, len, cap, rfl, hl, hel⟩ := open_cells underlying22 cSix (by decide) h
  obtain ⟨xs, h1, h2⟩ := list_choose len (fun i (z : List Int) => z.length = 6 ∧ (∀ n ∈ z, -9223372036854775808 ≤ n ∧ n ≤ 9223372036854775807) ∧ ∃ g o cur T zz, p = some ⟨g, o, none⟩ ∧ (g, Obj.cells cur T zz) ∈ restL W [1] ∧ ∀ (j : Nat) (n : Int), z[j]? = some n → cur[o + i * 6 + j]? = some (.int .i64 n)) (fun i hi => by
    obtain ⟨cs', n, z, hlen, ht, g, o, cur, T, zz, hp, hb, hc⟩ := hel i hi
    obtain ⟨ys, m, _, _, _, hyl, hf⟩ := DataW.trod_array underlying65 ht
    obtain ⟨ns, hn1, hn2⟩ := list_choose 6 (fun j (n : Int) => (-9223372036854775808 ≤ n ∧ n ≤ 9223372036854775807) ∧ cs'[j]? = some (.int .i64 n)) (fun j hj => by
      have f := hf j hj
      rw [cInt, Nat.mul_one, List.getElem?_eq_getElem (by omega)] at f
      have hj2 : j < cs'.length := by omega
      have e : (cs'.drop j).take 1 = [cs'[j]] := by rw [List.drop_eq_getElem_cons hj2]; rfl
      rw [e] at f
      obtain ⟨k, hk, _, hkw⟩ := DataW.trod_int underlying3 f
      injection hk with hk _
      exact ⟨k, bounds_i64 hkw, by rw [List.getElem?_eq_getElem hj2, hk]⟩)
    have hat : ∀ (j : Nat) (n : Int), ns[j]? = some n → cur[o + i * 6 + j]? = some (.int .i64 n) := fun j n hj => by
      have hlt := (List.getElem?_eq_some_iff.1 hj).1
      rw [hc j (by omega)]
      exact (hn2 j n hj).2
    obtain ⟨n0, hn0⟩ : ∃ n, ns[0]? = some n := ⟨_, List.getElem?_eq_getElem (by omega)⟩
    exact ⟨ns, hn1, fun n hmem => by
      obtain ⟨j, hj⟩ := List.getElem?_of_mem hmem
      exact (hn2 j n hj).1, g, o, cur, T, zz, hp, mem_rest hb (glob_ne1 h4 hb (hat 0 n0 hn0) rfl), hat⟩)
  subst h1
  exact ⟨_, xs, rfl, p, cap, rfl, hl, h2⟩

end Go.Proofs.YtkgmgmkbgnkdnaaGreatDoor
