/- The rows of a range, of a table: one list. -/
import Derived.Test.YtkgmgmkbgnkdnaaGreatDoorEz
import Derived.Test.YtkgmgmkbgnkdnaaGreatDoorKs12
import Derived.Test.YtkgmgmkbgnkdnaaGreatDoorEx22

namespace Go.Proofs.YtkgmgmkbgnkdnaaGreatDoor
open Go.Proofs.Tryz
open Go Go.RowKit Gw
set_option linter.unusedVariables false
set_option linter.unusedSimpArgs false
set_option maxRecDepth 100000
attribute [local irreducible] Gw.At Gw.Nx Gw.Ops
theorem insV_form (c : Nat) (out : List RowM) (x : RowM) : ∃ A B, out = A ++ B ∧ insV c out x = A ++ [x] ++ B ∧ (∀ r ∈ B, valN x c < valN r c) ∧ (A = [] ∨ ∃ A' r, A = A' ++ [r] ∧ valN r c ≤ valN x c) := by
  let q : RowM → Bool := fun r => decide (valN x c < valN r c)
  have e : out = (out.reverse.dropWhile q).reverse ++ (out.reverse.takeWhile q).reverse := by
    rw [← List.reverse_append, List.takeWhile_append_dropWhile, List.reverse_reverse]
  have hp : placeV c out (valN x c) = (out.reverse.dropWhile q).reverse.length := by
    rw [List.length_reverse]; rfl
  refine ⟨(out.reverse.dropWhile q).reverse, (out.reverse.takeWhile q).reverse, e, ?_, ?_, ?_⟩
  · unfold insV
    rw [hp]
    generalize (out.reverse.dropWhile q).reverse = A at *
    generalize (out.reverse.takeWhile q).reverse = B at *
    subst e
    rw [List.take_left', List.drop_left']
    all_goals rfl
  · intro r hr
    rw [List.mem_reverse] at hr
    have := List.all_takeWhile (p := q) (l := out.reverse)
    rw [List.all_eq_true] at this
    simpa [q] using this r hr
  · cases h : out.reverse.dropWhile q with
    | nil => left; rfl
    | cons r l =>
      right
      refine ⟨l.reverse, r, by simp, ?_⟩
      have := List.head?_dropWhile_not q out.reverse
      rw [h] at this
      simpa [q] using this
theorem insV_perm (c : Nat) (out : List RowM) (x : RowM) : (insV c out x).Perm (x :: out) := by
  obtain ⟨A, B, e1, e2, _, _⟩ := insV_form c out x
  rw [e2, e1, List.append_assoc]
  exact List.perm_middle
theorem foldV_perm (c : Nat) : ∀ (l out : List RowM), (l.foldl (insV c) out).Perm (out ++ l)
  | [], out => by simp
  | x :: l, out => by
    rw [List.foldl_cons]
    refine (foldV_perm c l _).trans ?_
    refine ((insV_perm c out x).append_right l).trans ?_
    exact List.perm_middle.symm
theorem insV_sorted {c : Nat} {out : List RowM} {x : RowM} (h : out.Pairwise (leV c)) (hk : ∀ r ∈ out, r.k < x.k) : (insV c out x).Pairwise (leV c) := by
  obtain ⟨A, B, e1, e2, hB, hA⟩ := insV_form c out x
  rw [e2]
  rw [e1] at h hk
  rw [List.pairwise_append] at h
  obtain ⟨h1, h2, h3⟩ := h
  have hA2 : ∀ r ∈ A, valN r c ≤ valN x c := by
    rcases hA with rfl | ⟨A', r0, rfl, h0⟩
    · intro r hr; simp at hr
    · intro r hr
      rcases List.mem_append.1 hr with hr' | hr'
      · rw [List.pairwise_append] at h1
        have := h1.2.2 r hr' r0 (by simp)
        unfold leV at this
        omega
      · rw [List.mem_singleton] at hr'
        subst hr'; exact h0
  rw [List.append_assoc, List.pairwise_append]
  refine ⟨h1, ?_, ?_⟩
  · rw [List.singleton_append, List.pairwise_cons]
    exact ⟨fun r hr => .inl (hB r hr), h2⟩
  · intro a ha b hb
    rw [List.singleton_append, List.mem_cons] at hb
    rcases hb with rfl | hb
    · have h4 := hA2 a ha
      have h5 := hk a (List.mem_append_left _ ha)
      unfold leV
      omega
    · exact h3 a ha b hb
theorem foldV_sorted (c : Nat) : ∀ (l out : List RowM), out.Pairwise (leV c) → l.Pairwise (fun a b => a.k < b.k) → (∀ r ∈ out, ∀ x ∈ l, r.k < x.k) → (l.foldl (insV c) out).Pairwise (leV c)
  | [], out, h, _, _ => h
  | x :: l, out, h, h2, h3 => by
    rw [List.foldl_cons]
    rw [List.pairwise_cons] at h2
    refine foldV_sorted c l _ (insV_sorted h fun r hr => h3 r hr x (by simp)) h2.2 ?_
    intro r hr y hy
    have := (insV_perm c out x).mem_iff.1 hr
    rcases List.mem_cons.1 this with rfl | hm
    · exact h2.1 y hy
    · exact h3 r hm y (by simp [hy])
theorem one_table {rs : List RowM} {t : Int} {f : RowM → Bool} (hs : SortedR rs) (hf : ∀ r, f r = true → r.t = t) : (rs.filter f).Pairwise (fun a b => a.k < b.k) := by
  have h1 : (rs.filter f).Pairwise (fun a b => a.lt2 b.t b.k) := hs.filter f
  refine h1.imp_of_mem ?_
  intro a b ha hb hab
  have h2 := hf a (List.mem_filter.1 ha).2
  have h3 := hf b (List.mem_filter.1 hb).2
  unfold RowM.lt2 at hab
  omega
theorem keys_inj {l : List RowM} (h : l.Pairwise (fun a b => a.k < b.k)) : ∀ a ∈ l, ∀ b ∈ l, a.k = b.k → a = b := by
  induction l with
  | nil => intro a ha; simp at ha
  | cons x l ih =>
    rw [List.pairwise_cons] at h
    intro a ha b hb e
    rcases List.mem_cons.1 ha with ea | ha' <;> rcases List.mem_cons.1 hb with eb | hb'
    · rw [ea, eb]
    · have := h.1 b hb'; rw [ea] at e; omega
    · have := h.1 a ha'; rw [eb] at e; omega
    · exact ih h.2 a ha' b hb' e
theorem inR_t {t : Int} {c : Nat} {lo hi : Int} {r : RowM} (h : inR t c lo hi r = true) : r.t = t := (of_decide_eq_true h).1
theorem rangeL_perm (rs : List RowM) (t : Int) (c : Nat) (lo hi : Int) : (rangeL rs t c lo hi).Perm (rs.filter (inR t c lo hi)) := by
  have := foldV_perm c (rs.filter (inR t c lo hi)) []
  rw [List.nil_append] at this
  exact this
theorem rangeL_sorted {rs : List RowM} (hs : SortedR rs) (t : Int) (c : Nat) (lo hi : Int) : (rangeL rs t c lo hi).Pairwise (leV c) :=
  foldV_sorted c _ [] .nil (one_table hs fun r h => inR_t h) (by intro r hr; simp at hr)
theorem sorted_one {rs : List RowM} (hs : SortedR rs) {t : Int} {f : RowM → Bool} (hf : ∀ r, f r = true → r.t = t) {c : Nat} {a b : List RowM} (ha : a.Perm (rs.filter f)) (hb : b.Perm (rs.filter f)) (h1 : a.Pairwise (leV c)) (h2 : b.Pairwise (leV c)) : a = b := by
  have hk := one_table hs hf
  refine (ha.trans hb.symm).eq_of_pairwise ?_ h1 h2
  intro x y hx hy hxy hyx
  refine keys_inj hk x (ha.mem_iff.1 hx) y (hb.mem_iff.1 hy) ?_
  unfold leV at hxy hyx
  omega
theorem range_one {rs : List RowM} (hs : SortedR rs) {t : Int} {c : Nat} {lo hi : Int} {o : List RowM} (h1 : o.Perm (rs.filter (inR t c lo hi))) (h2 : o.Pairwise (leV c)) : o = rangeL rs t c lo hi :=
  sorted_one hs (fun r h => inR_t h) h1 (rangeL_perm rs t c lo hi) h2 (rangeL_sorted hs t c lo hi)
def inT (t : Int) (r : RowM) : Bool := decide (r.t = t)
def tabL (rs : List RowM) (t : Int) : List RowM := rs.filter (inT t)
def StIs (v : Value) (p : Int) (rs : List RowM) (s : List Chunk) : Prop := ∃ sp mb es ck lm, v = .pointer (some ⟨sp, 0, none⟩) ∧ MapM K2 es ck lm ∧ MapR lm rs ∧ SortedR rs ∧ rs.length ≤ 2000 ∧ s = [(sp, .cells #[.map (some mb), .int .i64 p] 124 (0, 0)), (mb, .map es ck)]

theorem st_range0 (sp mb : Nat) (p : Int) (es : Array MapEntry) (ck : Nat) (lm : List ((Int × Int) × Value)) (rs : List RowM) (hm : MapM K2 es ck lm) (hR : MapR lm rs) (hs : SortedR rs) (hn : rs.length ≤ 2000) (t : Int) (c : Nat) (lo hi : Int) (hc : c ≤ 3) :
    Does Tryz.prog 28 #[.pointer (some ⟨sp, 0, none⟩), .int .i64 t, .int .i64 (c : Int), .int .i64 lo, .int .i64 hi] [[(sp, .cells #[.map (some mb), .int .i64 p] 124 (0, 0))], [(mb, .map es ck)]] (fun r H' => ∃ so, RowS 5 67 r (rangeL rs t c lo hi).length (rowCells (rangeL rs t c lo hi)) so ∧ H' = [so, [(sp, .cells #[.map (some mb), .int .i64 p] 124 (0, 0))], [(mb, .map es ck)]]) := by
 refine spec_enter func28 rfl ntmps28 rfl ?_
 intro u R
 refine Zb [0, 1, 2, 3, 4] ?_
 refine Zq <| Zg <| Ze (w_box Y (cs := #[_]) rfl) ?_
 rintro _ _ ⟨b2, rfl, rfl⟩
 refine Ze (w_box Y (cs := #[_]) rfl) ?_
 rintro _ _ ⟨b1, rfl, rfl⟩
 refine Ze (w_box Y (cs := #[_]) rfl) ?_
 rintro _ _ ⟨b3, rfl, rfl⟩
 refine Ze (w_box Y (cs := #[_]) rfl) ?_
 rintro _ _ ⟨b4, rfl, rfl⟩
 refine Za Y <| Z0 <| Zx <| Zq <| Zq <| Zg <| Zl isAgg3 Y ?_
 refine Zv (p_lss_nat (n := 0) Y Y) <| Zm Y ?_
 refine ops_split (t := 13) Y rfl (fun h1 => ?_) (fun h1 => ?_)
 ·
  exfalso; (cases h1; done)
 refine Yl isAgg3 Y ?_
 refine Yg (p_geq_nat (n := 4) Y Y) <| Zv (p_pick_f Y Y) <| Z0 <| Zx ?_
 refine at_if Y (fun h2 => ?_) (fun h2 => ?_)
 ·
  exfalso; omega
 refine at_skip <| Zx <| Zq <| Zg <| Zm Y <| Zl isAgg3 Y ?_
 refine Zv (p_makeFunc (vs := []) (us := [_, _, _, _]) Y Y) ?_
 refine Zc [_, _, _] Y call62 Y rfl (chosen_range sort_ok sp mb p es ck lm rs hm hR hs hn t c lo hi hc b1 b2 b3 b4) ?_
 rintro _ _ ⟨_, ⟨so, o, hro, hpm, hpw, rfl⟩, rfl⟩
 have e9 := range_one hs hpm hpw
 subst e9
 refine Za Y <| Z0 <| Zn [10] ?_
 refine Zx <| at_ret ?_
 refine nx_end1 rfl results28 Y (by exact ⟨so, hro, rfl⟩)

theorem st_range (v : Value) (p : Int) (rs : List RowM) (s : List Chunk) (hv : StIs v p rs s) (t : Int) (c : Nat) (lo hi : Int) (hc : c ≤ 3) : Does Tryz.prog 28 #[v, .int .i64 t, .int .i64 (c : Int), .int .i64 lo, .int .i64 hi] [s] (fun r H' => ∃ so, RowS 5 67 r (rangeL rs t c lo hi).length (rowCells (rangeL rs t c lo hi)) so ∧ H' = [so, s]) := by
  obtain ⟨sp, mb, es, ck, lm, rfl, hm, hR, hs, hn, rfl⟩ := hv
  refine does_re (st_range0 sp mb p es ck lm rs hm hR hs hn t c lo hi hc) (by simp) ?_
  rintro r H' ⟨so, hro, rfl⟩
  exact ⟨_, ⟨so, hro, rfl⟩, by simp⟩

end Go.Proofs.YtkgmgmkbgnkdnaaGreatDoor
