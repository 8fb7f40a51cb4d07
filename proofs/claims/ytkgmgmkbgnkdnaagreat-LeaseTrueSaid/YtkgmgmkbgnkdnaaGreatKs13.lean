/- The rows of a range, of a table: one list. -/
import Derived.Test.YtkgmgmkbgnkdnaaGreatEz
import Derived.Test.YtkgmgmkbgnkdnaaGreatKs12
import Derived.Test.YtkgmgmkbgnkdnaaGreatEx22

namespace Go.Proofs.YtkgmgmkbgnkdnaaGreat
open Go.Proofs.Tryz
open Go Go.RowKit Gw
set_option linter.unusedVariables false
set_option linter.unusedSimpArgs false
set_option maxRecDepth 100000
attribute [local irreducible] Gw.At Gw.Nx Gw.Ops
theorem insV_form (c : Nat) (out : List RowM) (x : RowM) : ∃ A B, out = A ++ B ∧ insV c out x = A ++ [x] ++ B ∧ (∀ r ∈ B, valN x c < valN r c) ∧ (A = [] ∨ ∃ A' r, A = A' ++ [r] ∧ valN r c ≤ valN x c) := by
  let q : RowM → Bool := fun r => decide (valN x c < valN r c)
  have e : out = (out.reverse.dropWhile q).reverse ++ (out.reverse.takeWhile q).reverse := by
    rw [← List.reverse_append, List.takeWhile_append_dropWhile, List.reverse_reverse]
  have hp : placeV c out (valN x c) = (out.reverse.dropWhile q).reverse.length := by
    rw [List.length_reverse]; rfl
  refine ⟨(out.reverse.dropWhile q).reverse, (out.reverse.takeWhile q).reverse, e, ?_, ?_, ?_⟩
  · unfold insV
    rw [hp]
    generalize (out.reverse.dropWhile q).reverse = A at *
    generalize (out.reverse.takeWhile q).reverse = B at *
    subst e
    rw [List.take_left', List.drop_left']
    all_goals rfl
  · intro r hr
    rw [List.mem_reverse] at hr
    have := List.all_takeWhile (p := q) (l := out.reverse)
    rw [List.all_eq_true] at this
    simpa [q] using this r hr
  · cases h : out.reverse.dropWhile q with
    | nil => left; rfl
    | cons r l =>
      right
      refine ⟨l.reverse, r, by simp, ?_⟩
      have := List.head?_dropWhile_not q out.reverse
      rw [h] at this
      simpa [q] using this
theorem insV_perm (c : Nat) (out : List RowM) (x : RowM) : (insV c out x).Perm (x :: out) := by
  obtain ⟨A, B, e1, e2, _, _⟩ := insV_form c out x
  rw [e2, e1, List.append_assoc]
  exact List.perm_middle
theorem foldV_perm (c : Nat) : ∀ (l out : List RowM), (l.foldl (insV c) out).Perm (out ++ l)
  | [], out => by simp
  | x :: l, out => by
    rw [List.foldl_cons]
    refine (foldV_perm c l _).trans ?_
    refine ((insV_perm c out x).append_right l).trans ?_
    exact List.perm_middle.symm
theorem insV_sorted {c : Nat} {out : List RowM} {x : RowM} (h : out.Pairwise (leV c)) (hk : ∀ r ∈ out, r.k < x.k) : (insV c out x).Pairwise (leV c) := by
  obtain ⟨A, B, e1, e2, hB, hA⟩ := insV_form c out x
  rw [e2]
  rw [e1] at h hk
  rw [List.pairwise_append] at h
  obtain ⟨h1, h2, h3⟩ := h
  have hA2 : ∀ r ∈ A, valN r c ≤ valN x c := by
    rcases hA with rfl | ⟨A', r0, rfl, h0⟩
    · intro r hr; simp at hr
    · intro r hr
      rcases List.mem_append.1 hr with hr' | hr'
      · rw [List.pairwise_append] at h1
        have := h1.2.2 r hr' r0 (by simp)
        unfold leV at this
        omega
      · rw [List.mem_singleton] at hr'
        subst hr'; exact h0
  rw [List.append_assoc, List.pairwise_append]
  refine ⟨h1, ?_, ?_⟩
  · rw [List.singleton_append, List.pairwise_cons]
    exact ⟨fun r hr => .inl (hB r hr), h2⟩
  · intro a ha b hb
    rw [List.singleton_append, List.mem_cons] at hb
    rcases hb with rfl | hb
    · have h4 := hA2 a ha
      have h5 := hk a (List.mem_append_left _ ha)
      unfold leV
      omega
    · exact h3 a ha b hb
theorem foldV_sorted (c : Nat) : ∀ (l out : List RowM), out.Pairwise (leV c) → l.Pairwise (fun a b => a.k < b.k) → (∀ r ∈ out, ∀ x ∈ l, r.k < x.k) → (l.foldl (insV c) out).Pairwise (leV c)
  | [], out, h, _, _ => h
  | x :: l, out, h, h2, h3 => by
    rw [List.foldl_cons]
    rw [List.pairwise_cons] at h2
    refine foldV_sorted c l _ (insV_sorted h fun r hr => h3 r hr x (by simp)) h2.2 ?_
    intro r hr y hy
    have := (insV_perm c out x).mem_iff.1 hr
    rcases List.mem_cons.1 this with rfl | hm
    · exact h2.1 y hy
    · exact h3 r hm y (by simp [hy])
theorem one_table {rs : List RowM} {t : Int} {f : RowM → Bool} (hs : SortedR rs) (hf : ∀ r, f r = true → r.t = t) : (rs.filter f).Pairwise (fun a b => a.k < b.k) := by
  have h1 : (rs.filter f).Pairwise (fun a b => a.lt2 b.t b.k) := hs.filter f
  refine h1.imp_of_mem ?_
  intro a b ha hb hab
  have h2 := hf a (List.mem_filter.1 ha).2
  have h3 := hf b (List.mem_filter.1 hb).2
  unfold RowM.lt2 at hab
  omega
theorem keys_inj {l : List RowM} (h : l.Pairwise (fun a b => a.k < b.k)) : ∀ a ∈ l, ∀ b ∈ l, a.k = b.k → a = b := by
  induction l with
  | nil => intro a ha; simp at ha
  | cons x l ih =>
    rw [List.pairwise_cons] at h
    intro a ha b hb e
    rcases List.mem_cons.1 ha with ea | ha' <;> rcases List.mem_cons.1 hb with eb | hb'
    · rw [ea, eb]
    · have := h.1 b hb'; rw [ea] at e; omega
    · have := h.1 a ha'; rw [eb] at e; omega
    · exact ih h.2 a ha' b hb' e
theorem inR_t {t : Int} {c : Nat} {lo hi : Int} {r : RowM} (h : inR t c lo hi r = true) : r.t = t := (of_decide_eq_true h).1
theorem rangeL_perm (rs : List RowM) (t : Int) (c : Nat) (lo hi : Int) : (rangeL rs t c lo hi).Perm (rs.filter (inR t c lo hi)) := by
  have := foldV_perm c (rs.filter (inR t c lo hi)) []
  rw [List.nil_append] at this
  exact this
theorem rangeL_sorted {rs : List RowM} (hs : SortedR rs) (t : Int) (c : Nat) (lo hi : Int) : (rangeL rs t c lo hi).Pairwise (leV c) :=
  foldV_sorted c _ [] .nil (one_table hs fun r h => inR_t h) (by intro r hr; simp at hr)
theorem sorted_one {rs : List RowM} (hs : SortedR rs) {t : Int} {f : RowM → Bool} (hf : ∀ r, f r = true → r.t = t) {c : Nat} {a b : List RowM} (ha : a.Perm (rs.filter f)) (hb : b.Perm (rs.filter f)) (h1 : a.Pairwise (leV c)) (h2 : b.Pairwise (leV c)) : a = b := by
  have hk := one_table hs hf
  refine (ha.trans hb.symm).eq_of_pairwise ?_ h1 h2
  intro x y hx hy hxy hyx
  refine keys_inj hk x (ha.mem_iff.1 hx) y (hb.mem_iff.1 hy) ?_
  unfold leV at hxy hyx
  omega
theorem range_one {rs : List RowM} (hs : SortedR rs) {t : Int} {c : Nat} {lo hi : Int} {o : List RowM} (h1 : o.Perm (rs.filter (inR t c lo hi))) (h2 : o.Pairwise (leV c)) : o = rangeL rs t c lo hi :=
  sorted_one hs (fun r h => inR_t h) h1 (rangeL_perm rs t c lo hi) h2 (rangeL_sorted hs t c lo hi)
def inT (t : Int) (r : RowM) : Bool := decide (r.t = t)
def tabL (rs : List RowM) (t : Int) : List RowM := rs.filter (inT t)
theorem tab_one {rs : List RowM} (hs : SortedR rs) {t : Int} {o : List RowM} (h1 : o.Perm (tabL rs t)) (h2 : o.Pairwise (leV 0)) : o = tabL rs t := by
  refine sorted_one (f := inT t) (t := t) hs (fun r h => of_decide_eq_true h) h1 (.refl _) h2 ?_
  refine (one_table (t := t) (f := inT t) hs (fun r h => of_decide_eq_true h)).imp ?_
  intro a b h
  unfold leV valN
  simp only [if_pos]
  omega

theorem rows_in (r : RowM) (t : Int) (b1 : Nat) : DoesR Tryz.prog 71 #[.agg #[.int .i64 r.t, .int .i64 r.k, .int .i64 r.v.a, .int .i64 r.v.b, .int .i64 r.v.c], .pointer (some ⟨b1, 0, none⟩)] [[(b1, .cells #[.int .i64 t] 3 (0, 0))]] (.bool (inT t r)) := by
 refine spec_enter func71 rfl ntmps71 rfl ?_
 intro u R
 refine Zb [0, 1] ?_
 refine Zq <| Zg <| Ze (w_box Y (cs := #[_, _, _, _, _]) rfl) ?_
 rintro _ _ ⟨b1, rfl, rfl⟩
 refine Za Y <| Z0 <| Zx <| Zq <| Zg <| Zh 0 underlying62 rfl rfl sizeOf3 Y <| Zl isAgg3 Y ?_
 refine Zl isAgg3 Y ?_
 first | refine op_v (p_eql_nat Y Y) ?_ | refine op_v (p_eql Y Y) ?_
 refine Za Y <| Z0 <| Zx <| at_ret ?_
 refine nx_end1 rfl results71 Y (by exact ⟨rfl, rfl⟩)

theorem chosen_rows (hS : SortOk) (sp mb : Nat) (p : Int) (es : Array MapEntry) (ck : Nat) (lm : List ((Int × Int) × Value)) (rs : List RowM) (hm : MapM K2 es ck lm) (hR : MapR lm rs) (hs : SortedR rs) (hn : rs.length ≤ 2000) (t : Int) (c : Nat) (hc : c ≤ 3) (b1 : Nat) :
    Does Tryz.prog 69 #[.pointer (some ⟨sp, 0, none⟩), .int .i64 (c : Int), .func (.func 71) #[] #[.pointer (some ⟨b1, 0, none⟩)]] [[(sp, .cells #[.map (some mb), .int .i64 p] 108 (0, 0))], [(mb, .map es ck)], [(b1, .cells #[.int .i64 t] 3 (0, 0))]] (fun r H' => ∃ (so : List Chunk) (o : List RowM), RowS 5 62 r o.length (rowCells o) so ∧ o.Perm (rs.filter (inT t)) ∧ o.Pairwise (leV c) ∧ H' = [so, [(sp, .cells #[.map (some mb), .int .i64 p] 108 (0, 0))], [(mb, .map es ck)], [(b1, .cells #[.int .i64 t] 3 (0, 0))]]) := by
 have hml : maxLen = 9223372036854775807 := rfl
 have hln := hR.len hm hs
 refine spec_enter func69 rfl ntmps69 rfl ?_
 intro u R
 refine Zb [0, 1, 2] ?_
 refine Zq <| Zg <| Ze (w_box Y (cs := #[_]) rfl) ?_
 rintro _ _ ⟨cb, rfl, rfl⟩
 refine Za Y <| Z0 <| Zx <| Zq <| Zq <| Zg <| Zm Y ?_
 first | refine op_v (p_eql_nil_nil underlying43 Y Y) ?_ | refine op_v (p_eql_ptr_nil underlying43 Y Y) ?_
 refine Z0 <| Zx ?_
 refine at_if_bool Y (fun h1 => ?_) (fun h1 => ?_)
 ·
  cases h1
 ·
  refine at_skip <| Zx <| Zq <| Zg <| Za Y <| Z0 <| Zx <| Zq <| Zq <| Zg <| Zm Y <| Zp Y rfl <| Zh 0 underlying108 rfl rfl sizeOf106 Y <| Zv (p_fieldAddr1 (off := 0) underlying106 rfl rfl sizeOf104 Y) <| Zl isAgg104 Y ?_
  refine Ze (w_rangeMap underlying104 Y (by repeat (first | exact Has.here _ | apply Has.there))) ?_
  rintro _ _ ⟨ib, rfl, rfl⟩
  refine Z0 <| Zx <| at_block <| at_nil ?_
  refine Zb [7, 2, 4, 17] ?_
  refine at_loopB (e0 := [(7, _)]) (H0 := _) (n := _) (fun m e H => ∃ (js : List Nat) (seen : Array Nat) (o : List RowM) (w : Value) (so : List Chunk), m = lm.length - js.length ∧ (IterM es js seen ∧ Seen lm (inT t) js o ∧ RowS 5 62 w o.length (rowCells o) so ∧ o.length ≤ js.length) ∧ e = [(7, w)] ∧ H = [[(ib, .mapIter (some mb) ck seen ck)], so]) (by exact ⟨[], #[], [], .slice none 0 0, [], rfl, ⟨iterM_new _, seen_new _ _, rowS_nil 5 _, Nat.le_refl _⟩, rfl, rfl⟩) (by repeat (first | exact Pull.nil _ | (apply Pull.cons; (focus (repeat (first | exact One.here _ _ | apply One.there)))))) ?_
  rintro _ _ _ ⟨js, seen, o, w, so, rfl, ⟨hit, hse, hro, hoj⟩, rfl, rfl⟩
  obtain ⟨qo, capo, rfl⟩ := hro.form
  have hjl := nodup_lt es.size js hit.nodup hit.lt
  rw [hm.size] at hjl
  refine Zq <| Zg <| Ze (w_nextMap hm hit Y (by repeat (first | exact One.here _ _ | apply One.there)) (by repeat (first | exact Has.here _ | apply Has.there))) ?_
  rintro _ _ hnx
  rcases hnx with ⟨hdone, rfl, rfl⟩ | ⟨jn, pn, seen2, hpn, hjn, hi2, rfl, rfl⟩
  ·
   refine Zd Y rfl <| Z0 <| Zx <| Zq ?_
   refine at_if_bool Y (fun hb => ?_) (fun hb => ?_)
   ·
    cases hb
   ·
    refine at_exit <| Zt <| Zt <| nx_block_exit <| Zx <| Zq <| Zg <| Zm Y <| Zv (p_makeFunc (vs := []) (us := [_]) Y Y) ?_
    refine Zc [_, _] Y call86 Y rfl (hS cb c _ o so hc (by omega) hro) ?_
    rintro _ _ ⟨_, ⟨rfl, so2, o2, hpm, hpw, hro2, rfl⟩, rfl⟩
    refine Z0 <| Zx <| Zq <| Zg <| Zm Y <| Za Y <| Z0 <| Zx <| at_ret ?_
    refine nx_end1 rfl results69 Y (by exact ⟨so2, o2, hro2, hpm.trans (hse.done hm hR hs hdone), hpw, rfl⟩)
  ·
   obtain ⟨r, hr, rfl⟩ := (hR.mem pn).1 (List.mem_of_getElem? hpn)
   refine Zd Y rfl <| Z0 <| Zx <| Zq ?_
   refine at_if_bool Y (fun hb => ?_) (fun hb => ?_)
   ·
    have hjl2 := nodup_lt es.size (js ++ [jn]) hi2.nodup hi2.lt
    rw [hm.size, List.length_append, List.length_singleton] at hjl2
    have hla : (js ++ [jn]).length = js.length + 1 := by rw [List.length_append]; rfl
    have hse2 := hse.push (r := r) (rs := rs) hpn
    have hse2t : (inT t) r = true → Seen lm (inT t) (js ++ [jn]) (o ++ [r]) := fun h => by rw [h] at hse2; exact hse2
    have hse2f : (inT t) r = false → Seen lm (inT t) (js ++ [jn]) o := fun h => by rw [h] at hse2; simpa using hse2
    refine at_skip <| Zx <| at_block <| Zq <| Zg <| op_rm (cs := [(ib, .mapIter (some mb) ck seen2 ck), (mb, .map es ck)]) (by simp) (p_entryMap hm hi2 hpn Y) rfl rfl ?_
    refine Zd Y rfl <| Ze (w_alloc zeroValue62 (cs := #[_, _, _, _, _]) rfl) ?_
    rintro _ _ ⟨xb, rfl, rfl⟩
    refine Ze (w_store_agg sizeOf62 Y Y (by first | (simp [Value.oneCell']; done) | (simp [Value.oneCell', Value.cells]; done)) (by repeat (first | exact Upd.here _ | apply Upd.there)) (by exact (rfl : _ = (#[.int .i64 r.t, .int .i64 r.k, .int .i64 r.v.a, .int .i64 r.v.b, .int .i64 r.v.c] : Array Value))) (by first | rfl | (simp; done)) (by first | omega | exact Nat.le_refl _ | decide | (simp; done)) (by exact free_zero _)) ?_
    rintro _ _ ⟨rfl, rfl⟩
    refine Z0 <| Zx <| Zq <| Zg <| Zm Y <| Zo (by repeat (first | exact Has.here _ | apply Has.there)) (p_load_agg (cs := #[_, _, _, _, _]) isAgg62 sizeOf62 Y (by first | omega | exact Nat.le_refl _ | decide | (simp; done)) (by rfl)) ?_
    refine Zr [_] Y call71 Y rfl (rows_in r t b1) ?_
    rintro _ _ ⟨rfl, rfl⟩
    refine Z0 <| Zx ?_
    refine at_if_bool Y (fun hin => ?_) (fun hin => ?_)
    ·
     refine Zg <| Zm Y <| Zo (by repeat (first | exact Has.here _ | apply Has.there)) (p_load_agg (cs := #[_, _, _, _, _]) isAgg62 sizeOf62 Y (by first | omega | exact Nat.le_refl _ | decide | (simp; done)) (by rfl)) ?_
     refine Ze (w_buildSlice (vs := [_]) (cs := [_, _, _, _, _]) underlying47 sizeOf62 zeroValue62 Y rfl rfl rfl rfl rfl) ?_
     rintro _ _ ⟨gb, rfl, rfl⟩
     refine Ze (w_append_subS (by_ := 40) (sz := 5) underlying47 (rfl : Tryz.prog.info? 62 = some Tryz.t62) rfl rfl rfl rfl Y (hro) Y (subS_new 5 gb 1 1 62 (0, 0) [.int .i64 r.t, .int .i64 r.k, .int .i64 r.v.a, .int .i64 r.v.b, .int .i64 r.v.c] rfl) (by repeat (first | exact One.here _ _ | apply One.there)) (by repeat (first | exact One.here _ _ | apply One.there)) (by simp [Value.oneCell']) (by omega) (by omega)) ?_
     rintro _ _ ⟨sa9, hra9, rfl⟩
     have hnew := rowS_eq hra9 (n' := (o ++ [r]).length) (xs' := rowCells (o ++ [r])) (by rw [List.length_append]; rfl) (by rw [rowCells_app]; rfl)
     obtain ⟨ga9, ca9, rfl⟩ := hra9.form
     refine Za Y <| Z0 <| Zn [2, 4, 7, 17] ?_
     refine nx_block_normal <| Zn [7, 2, 4, 17] ?_
     refine nx_againB (e' := [(7, _)]) (m := _) (H' := _) (by first | exact ⟨js ++ [jn], seen2, o ++ [r], _, _, rfl, ⟨hi2, hse2t hin, hnew, by rw [List.length_append, List.length_append]; simp; omega⟩, rfl, rfl⟩ | exact ⟨js ++ [jn], seen2, o, _, so, rfl, ⟨hi2, hse2f hin, hro, by rw [List.length_append]; omega⟩, rfl, rfl⟩)
    ·
     refine at_skip <| nx_block_normal <| Zn [7, 2, 4, 17] ?_
     refine nx_againB (e' := [(7, _)]) (m := _) (H' := _) (by first | exact ⟨js ++ [jn], seen2, o ++ [r], _, _, rfl, ⟨hi2, hse2t hin, hnew, by rw [List.length_append, List.length_append]; simp; omega⟩, rfl, rfl⟩ | exact ⟨js ++ [jn], seen2, o, _, so, rfl, ⟨hi2, hse2f hin, hro, by rw [List.length_append]; omega⟩, rfl, rfl⟩)
   ·
    cases hb

def StIs (v : Value) (p : Int) (rs : List RowM) (s : List Chunk) : Prop := ∃ sp mb es ck lm, v = .pointer (some ⟨sp, 0, none⟩) ∧ MapM K2 es ck lm ∧ MapR lm rs ∧ SortedR rs ∧ rs.length ≤ 2000 ∧ s = [(sp, .cells #[.map (some mb), .int .i64 p] 108 (0, 0)), (mb, .map es ck)]

theorem st_range0 (sp mb : Nat) (p : Int) (es : Array MapEntry) (ck : Nat) (lm : List ((Int × Int) × Value)) (rs : List RowM) (hm : MapM K2 es ck lm) (hR : MapR lm rs) (hs : SortedR rs) (hn : rs.length ≤ 2000) (t : Int) (c : Nat) (lo hi : Int) (hc : c ≤ 3) :
    Does Tryz.prog 31 #[.pointer (some ⟨sp, 0, none⟩), .int .i64 t, .int .i64 (c : Int), .int .i64 lo, .int .i64 hi] [[(sp, .cells #[.map (some mb), .int .i64 p] 108 (0, 0))], [(mb, .map es ck)]] (fun r H' => ∃ so, RowS 5 62 r (rangeL rs t c lo hi).length (rowCells (rangeL rs t c lo hi)) so ∧ H' = [so, [(sp, .cells #[.map (some mb), .int .i64 p] 108 (0, 0))], [(mb, .map es ck)]]) := by
 refine spec_enter func31 rfl ntmps31 rfl ?_
 intro u R
 refine Zb [0, 1, 2, 3, 4] ?_
 refine Zq <| Zg <| Ze (w_box Y (cs := #[_]) rfl) ?_
 rintro _ _ ⟨b2, rfl, rfl⟩
 refine Ze (w_box Y (cs := #[_]) rfl) ?_
 rintro _ _ ⟨b1, rfl, rfl⟩
 refine Ze (w_box Y (cs := #[_]) rfl) ?_
 rintro _ _ ⟨b3, rfl, rfl⟩
 refine Ze (w_box Y (cs := #[_]) rfl) ?_
 rintro _ _ ⟨b4, rfl, rfl⟩
 refine Za Y <| Z0 <| Zx <| Zq <| Zq <| Zg <| Zl isAgg3 Y ?_
 refine Zv (p_lss_nat (n := 0) Y Y) <| Zm Y ?_
 refine ops_split (t := 13) Y rfl (fun h1 => ?_) (fun h1 => ?_)
 ·
  exfalso; (cases h1; done)
 ·
  refine Yl isAgg3 Y ?_
  refine Yg (p_geq_nat (n := 4) Y Y) <| Zv (p_pick_f Y Y) <| Z0 <| Zx ?_
  refine at_if Y (fun h2 => ?_) (fun h2 => ?_)
  ·
   exfalso; omega
  ·
   refine at_skip <| Zx <| Zq <| Zg <| Zm Y <| Zl isAgg3 Y ?_
   refine Zv (p_makeFunc (vs := []) (us := [_, _, _, _]) Y Y) ?_
   refine Zc [_, _, _] Y call69 Y rfl (chosen_range sort_ok sp mb p es ck lm rs hm hR hs hn t c lo hi hc b1 b2 b3 b4) ?_
   rintro _ _ ⟨_, ⟨so, o, hro, hpm, hpw, rfl⟩, rfl⟩
   have e9 := range_one hs hpm hpw
   subst e9
   refine Za Y <| Z0 <| Zn [10] ?_
   refine Zx <| at_ret ?_
   refine nx_end1 rfl results31 Y (by exact ⟨so, hro, rfl⟩)

theorem st_range (v : Value) (p : Int) (rs : List RowM) (s : List Chunk) (hv : StIs v p rs s) (t : Int) (c : Nat) (lo hi : Int) (hc : c ≤ 3) : Does Tryz.prog 31 #[v, .int .i64 t, .int .i64 (c : Int), .int .i64 lo, .int .i64 hi] [s] (fun r H' => ∃ so, RowS 5 62 r (rangeL rs t c lo hi).length (rowCells (rangeL rs t c lo hi)) so ∧ H' = [so, s]) := by
  obtain ⟨sp, mb, es, ck, lm, rfl, hm, hR, hs, hn, rfl⟩ := hv
  refine does_re (st_range0 sp mb p es ck lm rs hm hR hs hn t c lo hi hc) (by simp) ?_
  rintro r H' ⟨so, hro, rfl⟩
  exact ⟨_, ⟨so, hro, rfl⟩, by simp⟩

theorem st_rows0 (sp mb : Nat) (p : Int) (es : Array MapEntry) (ck : Nat) (lm : List ((Int × Int) × Value)) (rs : List RowM) (hm : MapM K2 es ck lm) (hR : MapR lm rs) (hs : SortedR rs) (hn : rs.length ≤ 2000) (t : Int) :
    Does Tryz.prog 32 #[.pointer (some ⟨sp, 0, none⟩), .int .i64 t] [[(sp, .cells #[.map (some mb), .int .i64 p] 108 (0, 0))], [(mb, .map es ck)]] (fun r H' => ∃ so, RowS 5 62 r (tabL rs t).length (rowCells (tabL rs t)) so ∧ H' = [so, [(sp, .cells #[.map (some mb), .int .i64 p] 108 (0, 0))], [(mb, .map es ck)]]) := by
 refine spec_enter func32 rfl ntmps32 rfl ?_
 intro u R
 refine Zb [0, 1] ?_
 refine Zq <| Zg <| Ze (w_box Y (cs := #[_]) rfl) ?_
 rintro _ _ ⟨b1, rfl, rfl⟩
 refine Za Y <| Z0 <| Zx <| Zq <| Zg <| Zm Y <| Zv (p_makeFunc (vs := []) (us := [_]) Y Y) ?_
 refine Zc [_, _, _] Y call69 Y rfl (chosen_rows sort_ok sp mb p es ck lm rs hm hR hs hn t 0 (by omega) b1) ?_
 rintro _ _ ⟨_, ⟨so, o, hro, hpm, hpw, rfl⟩, rfl⟩
 have e9 : o = tabL rs t := tab_one hs hpm hpw
 subst e9
 refine Za Y <| Z0 <| Zx <| at_ret ?_
 refine nx_end1 rfl results32 Y (by exact ⟨so, hro, rfl⟩)

theorem st_rows (v : Value) (p : Int) (rs : List RowM) (s : List Chunk) (hv : StIs v p rs s) (t : Int) : Does Tryz.prog 32 #[v, .int .i64 t] [s] (fun r H' => ∃ so, RowS 5 62 r (tabL rs t).length (rowCells (tabL rs t)) so ∧ H' = [so, s]) := by
  obtain ⟨sp, mb, es, ck, lm, rfl, hm, hR, hs, hn, rfl⟩ := hv
  refine does_re (st_rows0 sp mb p es ck lm rs hm hR hs hn t) (by simp) ?_
  rintro r H' ⟨so, hro, rfl⟩
  exact ⟨_, ⟨so, hro, rfl⟩, by simp⟩

end Go.Proofs.YtkgmgmkbgnkdnaaGreat
