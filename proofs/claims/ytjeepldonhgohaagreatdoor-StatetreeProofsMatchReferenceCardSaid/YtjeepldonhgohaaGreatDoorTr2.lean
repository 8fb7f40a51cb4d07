/- The rows of a range, of a table: one list. -/
/- Roots of lists, in plain words. -/
/- slices.Backward; digest.Root. -/
import Derived.Test.YtjeepldonhgohaaGreatDoorEz
import Derived.Test.YtjeepldonhgohaaGreatDoorKs12
import Derived.Test.YtjeepldonhgohaaGreatDoorEx22
import Derived.Test.YtjeepldonhgohaaGreatDoorWi2
import Derived.Test.YtjeepldonhgohaaGreatDoorEx6

namespace Go.Proofs.YtjeepldonhgohaaGreatDoor
open Go.Proofs.Tryz
open Go Go.RowKit Gw
set_option linter.unusedVariables false
set_option linter.unusedSimpArgs false
set_option maxRecDepth 100000
attribute [local irreducible] Gw.At Gw.Nx Gw.Ops
theorem insV_form (c : Nat) (out : List RowM) (x : RowM) : ∃ A B, out = A ++ B ∧ insV c out x = A ++ [x] ++ B ∧ (∀ r ∈ B, valN x c < valN r c) ∧ (A = [] ∨ ∃ A' r, A = A' ++ [r] ∧ valN r c ≤ valN x c) := by
  let q : RowM → Bool := fun r => decide (valN x c < valN r c)
  have e : out = (out.reverse.dropWhile q).reverse ++ (out.reverse.takeWhile q).reverse := by
    rw [← List.reverse_append, List.takeWhile_append_dropWhile, List.reverse_reverse]
  have hp : placeV c out (valN x c) = (out.reverse.dropWhile q).reverse.length := by
    rw [List.length_reverse]; rfl
  refine ⟨(out.reverse.dropWhile q).reverse, (out.reverse.takeWhile q).reverse, e, ?_, ?_, ?_⟩
  · unfold insV
    rw [hp]
    generalize (out.reverse.dropWhile q).reverse = A at *
    generalize (out.reverse.takeWhile q).reverse = B at *
    subst e
    rw [List.take_left', List.drop_left']
    all_goals rfl
  · intro r hr
    rw [List.mem_reverse] at hr
    have := List.all_takeWhile (p := q) (l := out.reverse)
    rw [List.all_eq_true] at this
    simpa [q] using this r hr
  · cases h : out.reverse.dropWhile q with
    | nil => left; rfl
    | cons r l =>
      right
      refine ⟨l.reverse, r, by simp, ?_⟩
      have := List.head?_dropWhile_not q out.reverse
      rw [h] at this
      simpa [q] using this
theorem insV_perm (c : Nat) (out : List RowM) (x : RowM) : (insV c out x).Perm (x :: out) := by
  obtain ⟨A, B, e1, e2, _, _⟩ := insV_form c out x
  rw [e2, e1, List.append_assoc]
  exact List.perm_middle
theorem foldV_perm (c : Nat) : ∀ (l out : List RowM), (l.foldl (insV c) out).Perm (out ++ l)
  | [], out => by simp
  | x :: l, out => by
    rw [List.foldl_cons]
    refine (foldV_perm c l _).trans ?_
    refine ((insV_perm c out x).append_right l).trans ?_
    exact List.perm_middle.symm
theorem insV_sorted {c : Nat} {out : List RowM} {x : RowM} (h : out.Pairwise (leV c)) (hk : ∀ r ∈ out, r.k < x.k) : (insV c out x).Pairwise (leV c) := by
  obtain ⟨A, B, e1, e2, hB, hA⟩ := insV_form c out x
  rw [e2]
  rw [e1] at h hk
  rw [List.pairwise_append] at h
  obtain ⟨h1, h2, h3⟩ := h
  have hA2 : ∀ r ∈ A, valN r c ≤ valN x c := by
    rcases hA with rfl | ⟨A', r0, rfl, h0⟩
    · intro r hr; simp at hr
    · intro r hr
      rcases List.mem_append.1 hr with hr' | hr'
      · rw [List.pairwise_append] at h1
        have := h1.2.2 r hr' r0 (by simp)
        unfold leV at this
        omega
      · rw [List.mem_singleton] at hr'
        subst hr'; exact h0
  rw [List.append_assoc, List.pairwise_append]
  refine ⟨h1, ?_, ?_⟩
  · rw [List.singleton_append, List.pairwise_cons]
    exact ⟨fun r hr => .inl (hB r hr), h2⟩
  · intro a ha b hb
    rw [List.singleton_append, List.mem_cons] at hb
    rcases hb with rfl | hb
    · have h4 := hA2 a ha
      have h5 := hk a (List.mem_append_left _ ha)
      unfold leV
      omega
    · exact h3 a ha b hb
theorem foldV_sorted (c : Nat) : ∀ (l out : List RowM), out.Pairwise (leV c) → l.Pairwise (fun a b => a.k < b.k) → (∀ r ∈ out, ∀ x ∈ l, r.k < x.k) → (l.foldl (insV c) out).Pairwise (leV c)
  | [], out, h, _, _ => h
  | x :: l, out, h, h2, h3 => by
    rw [List.foldl_cons]
    rw [List.pairwise_cons] at h2
    refine foldV_sorted c l _ (insV_sorted h fun r hr => h3 r hr x (by simp)) h2.2 ?_
    intro r hr y hy
    have := (insV_perm c out x).mem_iff.1 hr
    rcases List.mem_cons.1 this with rfl | hm
    · exact h2.1 y hy
    · exact h3 r hm y (by simp [hy])
/-- Rows of one table ascend by their keys. -/
theorem one_table {rs : List RowM} {t : Int} {f : RowM → Bool} (hs : SortedR rs) (hf : ∀ r, f r = true → r.t = t) : (rs.filter f).Pairwise (fun a b => a.k < b.k) := by
  have h1 : (rs.filter f).Pairwise (fun a b => a.lt2 b.t b.k) := hs.filter f
  refine h1.imp_of_mem ?_
  intro a b ha hb hab
  have h2 := hf a (List.mem_filter.1 ha).2
  have h3 := hf b (List.mem_filter.1 hb).2
  unfold RowM.lt2 at hab
  omega
theorem keys_inj {l : List RowM} (h : l.Pairwise (fun a b => a.k < b.k)) : ∀ a ∈ l, ∀ b ∈ l, a.k = b.k → a = b := by
  induction l with
  | nil => intro a ha; simp at ha
  | cons x l ih =>
    rw [List.pairwise_cons] at h
    intro a ha b hb e
    rcases List.mem_cons.1 ha with ea | ha' <;> rcases List.mem_cons.1 hb with eb | hb'
    · rw [ea, eb]
    · have := h.1 b hb'; rw [ea] at e; omega
    · have := h.1 a ha'; rw [eb] at e; omega
    · exact ih h.2 a ha' b hb' e
theorem inR_t {t : Int} {c : Nat} {lo hi : Int} {r : RowM} (h : inR t c lo hi r = true) : r.t = t := (of_decide_eq_true h).1
theorem rangeL_perm (rs : List RowM) (t : Int) (c : Nat) (lo hi : Int) : (rangeL rs t c lo hi).Perm (rs.filter (inR t c lo hi)) := by
  have := foldV_perm c (rs.filter (inR t c lo hi)) []
  rw [List.nil_append] at this
  exact this
theorem rangeL_sorted {rs : List RowM} (hs : SortedR rs) (t : Int) (c : Nat) (lo hi : Int) : (rangeL rs t c lo hi).Pairwise (leV c) :=
  foldV_sorted c _ [] .nil (one_table hs fun r h => inR_t h) (by intro r hr; simp at hr)
/-- What is sorted by value and key, and holds the same rows: the same list. -/
theorem sorted_one {rs : List RowM} (hs : SortedR rs) {t : Int} {f : RowM → Bool} (hf : ∀ r, f r = true → r.t = t) {c : Nat} {a b : List RowM} (ha : a.Perm (rs.filter f)) (hb : b.Perm (rs.filter f)) (h1 : a.Pairwise (leV c)) (h2 : b.Pairwise (leV c)) : a = b := by
  have hk := one_table hs hf
  refine (ha.trans hb.symm).eq_of_pairwise ?_ h1 h2
  intro x y hx hy hxy hyx
  refine keys_inj hk x (ha.mem_iff.1 hx) y (hb.mem_iff.1 hy) ?_
  unfold leV at hxy hyx
  omega
theorem range_one {rs : List RowM} (hs : SortedR rs) {t : Int} {c : Nat} {lo hi : Int} {o : List RowM} (h1 : o.Perm (rs.filter (inR t c lo hi))) (h2 : o.Pairwise (leV c)) : o = rangeL rs t c lo hi :=
  sorted_one hs (fun r h => inR_t h) h1 (rangeL_perm rs t c lo hi) h2 (rangeL_sorted hs t c lo hi)
/-- The program's state: it lies in the segment s, and holds the rows rs. -/
def StIs (v : Value) (p : Int) (rs : List RowM) (s : List Chunk) : Prop := ∃ sp mb es ck lm, v = .pointer (some ⟨sp, 0, none⟩) ∧ MapM K2 es ck lm ∧ MapR lm rs ∧ SortedR rs ∧ rs.length ≤ 2000 ∧ s = [(sp, .cells #[.map (some mb), .int .i64 p] 154 (0, 0)), (mb, .map es ck)]

theorem st_range0 (sp mb : Nat) (p : Int) (es : Array MapEntry) (ck : Nat) (lm : List ((Int × Int) × Value)) (rs : List RowM) (hm : MapM K2 es ck lm) (hR : MapR lm rs) (hs : SortedR rs) (hn : rs.length ≤ 2000) (t : Int) (c : Nat) (lo hi : Int) (hc : c ≤ 3) :
    Does Tryz.prog 25 #[.pointer (some ⟨sp, 0, none⟩), .int .i64 t, .int .i64 (c : Int), .int .i64 lo, .int .i64 hi] [[(sp, .cells #[.map (some mb), .int .i64 p] 154 (0, 0))], [(mb, .map es ck)]] (fun r H' => ∃ so, RowS 5 74 r (rangeL rs t c lo hi).length (rowCells (rangeL rs t c lo hi)) so ∧ H' = [so, [(sp, .cells #[.map (some mb), .int .i64 p] 154 (0, 0))], [(mb, .map es ck)]]) := by
 refine spec_enter func25 rfl ntmps25 rfl ?_
 intro u R
 refine Zb [0, 1, 2, 3, 4] ?_
 refine Zq <| Zg <| Ze (w_box Y (cs := #[_]) rfl) ?_
 rintro _ _ ⟨b2, rfl, rfl⟩
 refine Ze (w_box Y (cs := #[_]) rfl) ?_
 rintro _ _ ⟨b1, rfl, rfl⟩
 refine Ze (w_box Y (cs := #[_]) rfl) ?_
 rintro _ _ ⟨b3, rfl, rfl⟩
 refine Ze (w_box Y (cs := #[_]) rfl) ?_
 rintro _ _ ⟨b4, rfl, rfl⟩
 refine Za Y <| Z0 <| Zx <| Zq <| Zq <| Zg <| Zl isAgg3 Y ?_
 refine Zv (p_lss_nat (n := 0) Y Y) <| Zm Y ?_
 refine ops_split (t := 13) Y rfl (fun h1 => ?_) (fun h1 => ?_)
 ·
  exfalso; (cases h1; done)
 ·
  refine Yl isAgg3 Y ?_
  refine Yg (p_geq_nat (n := 4) Y Y) <| Zv (p_pick_f Y Y) <| Z0 <| Zx ?_
  refine at_if Y (fun h2 => ?_) (fun h2 => ?_)
  ·
   exfalso; omega
  ·
   refine at_skip <| Zx <| Zq <| Zg <| Zm Y <| Zl isAgg3 Y ?_
   refine Zv (p_makeFunc (vs := []) (us := [_, _, _, _]) Y Y) ?_
   refine Zc [_, _, _] Y call67 Y rfl (chosen_range sort_ok sp mb p es ck lm rs hm hR hs hn t c lo hi hc b1 b2 b3 b4) ?_
   rintro _ _ ⟨_, ⟨so, o, hro, hpm, hpw, rfl⟩, rfl⟩
   have e9 := range_one hs hpm hpw
   subst e9
   refine Za Y <| Z0 <| Zn [10] ?_
   refine Zx <| at_ret ?_
   refine nx_end1 rfl results25 Y (by exact ⟨so, hro, rfl⟩)

theorem st_range (v : Value) (p : Int) (rs : List RowM) (s : List Chunk) (hv : StIs v p rs s) (t : Int) (c : Nat) (lo hi : Int) (hc : c ≤ 3) : Does Tryz.prog 25 #[v, .int .i64 t, .int .i64 (c : Int), .int .i64 lo, .int .i64 hi] [s] (fun r H' => ∃ so, RowS 5 74 r (rangeL rs t c lo hi).length (rowCells (rangeL rs t c lo hi)) so ∧ H' = [so, s]) := by
  obtain ⟨sp, mb, es, ck, lm, rfl, hm, hR, hs, hn, rfl⟩ := hv
  refine does_re (st_range0 sp mb p es ck lm rs hm hR hs hn t c lo hi hc) (by simp) ?_
  rintro r H' ⟨so, hro, rfl⟩
  exact ⟨_, ⟨so, hro, rfl⟩, by simp⟩

end Go.Proofs.YtjeepldonhgohaaGreatDoor


namespace Go.Proofs.YtjeepldonhgohaaGreatDoor
open Go.Proofs.Tryz
open Go Go.RowKit Gw
set_option linter.unusedVariables false
set_option linter.unusedSimpArgs false
set_option maxRecDepth 100000
attribute [local irreducible] Gw.At Gw.Nx Gw.Ops
abbrev Bs := List UInt8
def leafS (s : Bs) : Bs := sha (0 :: s)
def nodeS (a b : Bs) : Bs := sha (1 :: (a ++ b))
/-- The greatest power of two that is less than n (n at least 2). -/
def leftN (n : Nat) : Nat := 2 ^ Nat.log2 (n - 1)
theorem left_pos (n : Nat) : 0 < leftN n := Nat.two_pow_pos _
theorem left_lt {n : Nat} (h : 2 ≤ n) : leftN n < n := by
  have := Nat.log2_self_le (n := n - 1) (by omega)
  unfold leftN; omega
theorem left_of {n e : Nat} (h1 : 2 ^ e < n) (h2 : n ≤ 2 ^ (e + 1)) : leftN n = 2 ^ e := by
  unfold leftN
  congr 1
  refine (Nat.log2_eq_iff (by have := Nat.two_pow_pos e; omega)).2 ⟨by omega, by omega⟩
theorem left_ge {n : Nat} (h : 2 ≤ n) : n ≤ 2 * leftN n := by
  have := Nat.lt_log2_self (n := n - 1)
  unfold leftN
  rw [Nat.pow_succ] at this
  omega
/-- The root of a list. -/
def rootT (l : List Bs) : Bs :=
  if h : 2 ≤ l.length then nodeS (rootT (l.take (leftN l.length))) (rootT (l.drop (leftN l.length)))
  else match l with
    | [] => sha []
    | x :: _ => leafS x
termination_by l.length
decreasing_by
  · have := left_lt h; rw [List.length_take]; omega
  · have := left_pos l.length; rw [List.length_drop]; omega
theorem root_nil : rootT [] = sha [] := by rw [rootT]; rfl
theorem root_one (x : Bs) : rootT [x] = leafS x := by rw [rootT]; rfl
theorem root_more {l : List Bs} (h : 2 ≤ l.length) : rootT l = nodeS (rootT (l.take (leftN l.length))) (rootT (l.drop (leftN l.length))) := by
  rw [rootT, dif_pos h]
theorem root_join {a b : List Bs} {e : Nat} (ha : a.length = 2 ^ e) (h0 : 0 < b.length) (hb : b.length ≤ 2 ^ e) : rootT (a ++ b) = nodeS (rootT a) (rootT b) := by
  have hp := Nat.two_pow_pos e
  have hl : leftN (a ++ b).length = a.length := by
    rw [ha]
    exact left_of (by rw [List.length_append]; omega) (by rw [List.length_append, Nat.pow_succ]; omega)
  rw [root_more (by rw [List.length_append]; omega), hl, List.take_left', List.drop_left']
  · rfl
  · rfl
/-- Complete parts, the largest one first. -/
structure BinP (ps : List (List Bs)) : Prop where
  pow : ∀ p ∈ ps, ∃ e, p.length = 2 ^ e
  lt : ps.Pairwise (fun a b => b.length < a.length)
theorem binP_nil : BinP [] := ⟨by simp, .nil⟩
theorem pow_lt {a b : Nat} (h : 2 ^ a < 2 ^ b) : 2 * 2 ^ a ≤ 2 ^ b := by
  have := (Nat.pow_lt_pow_iff_right (a := 2) (by omega)).1 h
  calc 2 * 2 ^ a = 2 ^ (a + 1) := by rw [Nat.pow_succ]; omega
    _ ≤ 2 ^ b := Nat.pow_le_pow_right (by omega) this
theorem BinP.tail {p : List Bs} {ps : List (List Bs)} (h : BinP (p :: ps)) : BinP ps := ⟨fun q hq => h.pow q (by simp [hq]), (List.pairwise_cons.1 h.lt).2⟩
theorem BinP.init {p : List Bs} {ps : List (List Bs)} (h : BinP (ps ++ [p])) : BinP ps := ⟨fun q hq => h.pow q (by simp [hq]), (List.pairwise_append.1 h.lt).1⟩
theorem BinP.sum : ∀ {ps : List (List Bs)} {e : Nat}, BinP ps → (∀ p ∈ ps, p.length < 2 ^ e) → ps.flatten.length < 2 ^ e
  | [], e, _, _ => by simpa using Nat.two_pow_pos e
  | p :: ps, e, h, hl => by
    obtain ⟨e1, h1⟩ := h.pow p (by simp)
    have h2 := hl p (by simp)
    rw [h1] at h2
    have h3 := pow_lt h2
    have h4 := BinP.sum (e := e1) h.tail (fun q hq => by rw [← h1]; exact (List.pairwise_cons.1 h.lt).1 q hq)
    rw [List.flatten_cons, List.length_append, h1]
    omega
theorem BinP.nonempty {ps : List (List Bs)} (h : BinP ps) (hn : ps ≠ []) : 0 < ps.flatten.length := by
  cases ps with
  | nil => exact absurd rfl hn
  | cons p ps =>
    obtain ⟨e, he⟩ := h.pow p (by simp)
    have := Nat.two_pow_pos e
    rw [List.flatten_cons, List.length_append]
    omega
theorem BinP.root : ∀ {ps : List (List Bs)} {q : List Bs}, BinP (ps ++ [q]) → ps.foldr (fun p o => nodeS (rootT p) o) (rootT q) = rootT (ps.flatten ++ q)
  | [], q, _ => by simp
  | p :: ps, q, h => by
    rw [List.foldr_cons, BinP.root (ps := ps) (q := q) h.tail, List.flatten_cons, List.append_assoc]
    obtain ⟨e, he⟩ := h.pow p (by simp)
    have hf : (ps ++ [q]).flatten = ps.flatten ++ q := by simp
    have ht : BinP (ps ++ [q]) := h.tail
    have h1 : 0 < (ps ++ [q]).flatten.length := BinP.nonempty ht (by simp)
    have h2 := BinP.sum (e := e) ht (fun r hr => by rw [← he]; exact (List.pairwise_cons.1 h.lt).1 r hr)
    rw [hf] at h1 h2
    exact (root_join he h1 (by omega)).symm
/-- Ahead of the merging of equal parts. -/
structure MergeI (ls : List Bs) (ps : List (List Bs)) (q : List Bs) (i : Nat) : Prop where
  bin : BinP ps
  pow : ∃ e, q.length = 2 ^ e
  le : ∀ p ∈ ps, q.length ≤ p.length
  flat : ps.flatten ++ q = ls.take i
theorem merge_new {ls : List Bs} {ps : List (List Bs)} {i : Nat} {s : Bs} (h : BinP ps) (hf : ps.flatten = ls.take i) (hs : ls[i]? = some s) : MergeI ls ps [s] (i + 1) :=
  ⟨h, ⟨0, rfl⟩, fun p hp => by
    obtain ⟨e, he⟩ := h.pow p hp
    have := Nat.two_pow_pos e
    rw [he]; simp; omega, by rw [List.take_add_one, hs, hf]; rfl⟩
theorem MergeI.step {ls : List Bs} {ps : List (List Bs)} {p q : List Bs} {i : Nat} (h : MergeI ls (ps ++ [p]) q i) (e : p.length = q.length) : MergeI ls ps (p ++ q) i ∧ rootT (p ++ q) = nodeS (rootT p) (rootT q) := by
  obtain ⟨e1, he⟩ := h.pow
  have hp := Nat.two_pow_pos e1
  refine ⟨⟨h.bin.init, ⟨e1 + 1, by rw [List.length_append, e, he, Nat.pow_succ]; omega⟩, ?_, ?_⟩, root_join (e.trans he) (by omega) (by omega)⟩
  · intro r hr
    obtain ⟨e2, h2⟩ := h.bin.pow r (by simp [hr])
    have h3 := (List.pairwise_append.1 h.bin.lt).2.2 r hr p (by simp)
    rw [e, he, h2] at h3
    have h4 := pow_lt h3
    rw [List.length_append, e, he, h2]
    omega
  · rw [← h.flat]; simp
theorem MergeI.done {ls : List Bs} {ps : List (List Bs)} {q : List Bs} {i : Nat} (h : MergeI ls ps q i) (hne : ∀ ps' p, ps = ps' ++ [p] → p.length ≠ q.length) : BinP (ps ++ [q]) ∧ (ps ++ [q]).flatten = ls.take i := by
  refine ⟨⟨?_, ?_⟩, by rw [← h.flat]; simp⟩
  · intro r hr
    rcases List.mem_append.1 hr with hr | hr
    · exact h.bin.pow r hr
    · rw [List.mem_singleton] at hr
      subst hr; exact h.pow
  · rw [List.pairwise_append]
    refine ⟨h.bin.lt, List.pairwise_singleton _ _, ?_⟩
    intro a ha b hb
    rw [List.mem_singleton] at hb
    subst hb
    rcases List.eq_nil_or_concat ps with rfl | ⟨ps', p, rfl⟩
    · simp at ha
    · have h1 := hne ps' p (by simp)
      have h2 := h.le p (by simp)
      have h3 := h.bin.lt
      simp only [List.concat_eq_append] at ha h3
      rw [List.pairwise_append] at h3
      rcases List.mem_append.1 ha with ha | ha
      · have := h3.2.2 a ha p (by simp)
        omega
      · rw [List.mem_singleton] at ha
        subst ha; omega
theorem take_at {cur : Array Value} {xs : List Value} (h : cur.toList.take xs.length = xs) {i : Nat} {x : Value} (hx : xs[i]? = some x) : cur[i]? = some x := by
  have hlt := (List.getElem?_eq_some_iff.1 hx).1
  rw [← h, List.getElem?_take, if_pos hlt, Array.getElem?_toList] at hx
  exact hx
theorem fold_rev (ps : List (List Bs)) (o : Bs) : (ps.map rootT).reverse.foldl (fun o r => nodeS r o) o = ps.foldr (fun p o => nodeS (rootT p) o) o := by
  rw [List.foldl_reverse, List.foldr_map]

/-- A list of strings that lies in memory. -/
def StrsU (M : List Chunk) (v : Value) (ls : List Bs) : Prop := ∃ p cap, v = .slice p ls.length cap ∧ (ls.length ≤ maxLen ∧ ls.length ≤ cap) ∧ ∀ (i : Nat) (s : Bs), ls[i]? = some s → ∃ g off cur T zz, p = some ⟨g, off, none⟩ ∧ (g, Obj.cells cur T zz) ∈ M ∧ cur[off + i]? = some (strV s)
def rtV (p : List Bs) : Value := strV (rootT p)
def lnV (p : List Bs) : Value := .int .i64 ((p.length : Nat) : Int)
theorem rowS_take {sz : Nat} {e : TypeId} {b : Option Addr} {n c : Nat} {xs : List Value} {s : List Chunk} (h : RowS sz e (.slice b n c) n xs s) (k : Nat) (hk : k ≤ n) : RowS sz e (.slice b k c) k (xs.take (k * sz)) s := by
  obtain ⟨hl, h⟩ := h
  refine ⟨by rw [List.length_take, hl, Nat.min_eq_left (Nat.mul_le_mul_right _ hk)], ?_⟩
  rcases h with ⟨h1, rfl, rfl⟩ | ⟨g, cap', cur, z, h1, rfl, h2, h3, h4, h5, h6⟩
  · injection h1 with e1 e2 e3
    subst e1 e3
    obtain rfl : k = 0 := by omega
    exact .inl ⟨rfl, rfl, rfl⟩
  · injection h1 with e1 e2 e3
    subst e1 e3
    refine .inr ⟨g, c, cur, z, rfl, rfl, by omega, h3, h4, ?_, h6⟩
    rw [← h5, List.take_take, Nat.min_eq_left (Nat.mul_le_mul_right _ hk)]
theorem rowS_get {e : TypeId} {v : Value} {n : Nat} {xs : List Value} {s : List Chunk} (h : RowS 1 e v n xs s) (h0 : 0 < n) : ∃ g cap cur z, v = .slice (some ⟨g, 0, none⟩) n cap ∧ s = [(g, .cells cur e z)] ∧ n ≤ cap ∧ ∀ (i : Nat) (x : Value), xs[i]? = some x → cur[i]? = some x := by
  obtain ⟨hl, ⟨_, h1, _⟩ | ⟨g, cap', cur, z, h1, rfl, h2, h3, h4, h5, h6⟩⟩ := h
  · omega
  · rw [← hl] at h5
    exact ⟨g, cap', cur, z, h1, rfl, h2, fun i x hx => take_at h5 hx⟩
theorem StrsU.mono {M M' : List Chunk} {v : Value} {ls : List Bs} (h : StrsU M v ls) (hm : ∀ c ∈ M, c ∈ M') : StrsU M' v ls := by
  obtain ⟨p, cap, e, hl, hg⟩ := h
  refine ⟨p, cap, e, hl, fun i s hs => ?_⟩
  obtain ⟨g, off, cur, T, zz, e1, h1, h2⟩ := hg i s hs
  exact ⟨g, off, cur, T, zz, e1, hm _ h1, h2⟩
theorem strsU_row {e : TypeId} {v : Value} {ls : List Bs} {s : List Chunk} (h : RowS 1 e v ls.length (ls.map strV) s) (hn : ls.length ≤ maxLen) : StrsU s v ls := by
  rcases Nat.eq_zero_or_pos ls.length with h0 | h0
  · obtain ⟨b, cap, rfl⟩ := h.form
    exact ⟨b, cap, rfl, ⟨hn, by omega⟩, fun i s hs => by rw [List.eq_nil_of_length_eq_zero h0] at hs; simp at hs⟩
  · obtain ⟨g, cap, cur, z, rfl, rfl, hle, hg⟩ := rowS_get h h0
    refine ⟨_, cap, rfl, ⟨hn, hle⟩, fun i s hs => ⟨g, 0, cur, e, z, rfl, by simp, ?_⟩⟩
    rw [Nat.zero_add]
    exact hg i _ (by rw [List.getElem?_map, hs]; rfl)
theorem root_len (l : List Bs) : (rootT l).length = 32 := by
  rw [rootT]
  split
  · exact sha_len _
  · split <;> exact sha_len _

theorem leaf_spec (s : Bs) (hs : s.length ≤ 140737488354000) (Tg : TypeId) (zg : Nat × Nat) : DoesR Tryz.prog 58 #[.string (str s)] [[(0, .cells (kTab.map u32v).toArray Tg zg)]] (.string (str (leafS s))) := by
 refine spec_enter func58 rfl ntmps58 rfl ?_
 intro u R
 refine Zb [0] ?_
 refine Zq <| Zg <| Za Y <| Z0 <| Zx <| Zq <| Zg <| Zc [_] Y call92 Y rfl (marked_spec (str [0])) ?_
 rintro _ _ ⟨_, ⟨bm, rfl, rfl⟩, rfl⟩
 refine Zm Y <| Ze (w_buildSlice (vs := [_]) (cs := [_]) underlying35 sizeOf9 zeroValue9 Y rfl rfl rfl rfl rfl) ?_
 rintro _ _ ⟨bk, rfl, rfl⟩
 refine Zr [_] Y call121 Y rfl (marked_in_spec bk 0 1 bm #[strV s] _ _ _ _ [s] [0] rfl (by simp) (by simp) (by simp; omega) _ _) ?_
 rintro _ _ ⟨rfl, rfl⟩
 refine Za Y <| Z0 <| Zx <| at_ret ?_
 refine nx_end1 rfl results58 Y (by exact ⟨by simp [leafS], rfl⟩)

theorem node_spec (a b : Bs) (ha : a.length ≤ 1000000000) (hb : b.length ≤ 1000000000) (Tg : TypeId) (zg : Nat × Nat) : DoesR Tryz.prog 59 #[.string (str a), .string (str b)] [[(0, .cells (kTab.map u32v).toArray Tg zg)]] (.string (str (nodeS a b))) := by
 refine spec_enter func59 rfl ntmps59 rfl ?_
 intro u R
 refine Zb [0, 1] ?_
 refine Zq <| Zg <| Za Y <| Z0 <| Zx <| Zq <| Zg <| Zc [_] Y call92 Y rfl (marked_spec (str [1])) ?_
 rintro _ _ ⟨_, ⟨bm, rfl, rfl⟩, rfl⟩
 refine Zm Y <| Zm Y <| Ze (w_buildSlice (vs := [_, _]) (cs := [_, _]) underlying35 sizeOf9 zeroValue9 Y rfl rfl rfl rfl rfl) ?_
 rintro _ _ ⟨bk, rfl, rfl⟩
 refine Zr [_] Y call121 Y rfl (marked_in_spec bk 0 2 bm #[strV a, strV b] _ _ _ _ [a, b] [1] rfl (by simp) (by simp) (by simp; omega) _ _) ?_
 rintro _ _ ⟨rfl, rfl⟩
 refine Za Y <| Z0 <| Zx <| at_ret ?_
 refine nx_end1 rfl results59 Y (by exact ⟨by simp [nodeS], rfl⟩)

end Go.Proofs.YtjeepldonhgohaaGreatDoor


namespace Go.Proofs.YtjeepldonhgohaaGreatDoor
open Go.Proofs.Tryz
open Go Go.RowKit Gw
set_option linter.unusedVariables false
set_option linter.unusedSimpArgs false
set_option maxRecDepth 100000
attribute [local irreducible] Gw.At Gw.Nx Gw.Ops
/-- A list from its end. -/
def bwd {α : Type} [Inhabited α] (ls : List α) : List (Nat × α) := (List.range ls.length).reverse.map (fun i => (i, ls.getD i default))
theorem bwd_len {α : Type} [Inhabited α] (ls : List α) : (bwd ls).length = ls.length := by simp [bwd]
theorem bwd_at {α : Type} [Inhabited α] {ls : List α} {m : Nat} {s : α} (h : ls[m]? = some s) : (bwd ls)[ls.length - (m + 1)]? = some (m, s) := by
  have hlt := (List.getElem?_eq_some_iff.1 h).1
  unfold bwd
  rw [List.getElem?_map, List.getElem?_reverse (by simp; omega), List.length_range, List.getElem?_range (by omega)]
  rw [show ls.length - 1 - (ls.length - (m + 1)) = m by omega]
  simp [List.getD, h]
theorem bwd_snd {α : Type} [Inhabited α] (ls : List α) : (bwd ls).map Prod.snd = ls.reverse := by
  apply List.ext_getElem?
  intro i
  by_cases hi : i < ls.length
  · have h1 : ls[ls.length - 1 - i]? = some (ls[ls.length - 1 - i]'(by omega)) := List.getElem?_eq_getElem _
    have h2 := bwd_at h1
    rw [show ls.length - (ls.length - 1 - i + 1) = i by omega] at h2
    rw [List.getElem?_map, h2, List.getElem?_reverse hi, h1]; rfl
  · rw [List.getElem?_eq_none (by rw [List.length_map, bwd_len]; omega), List.getElem?_eq_none (by simp; omega)]
theorem bwd_mem {α : Type} [Inhabited α] {ls : List α} {x : Nat × α} (h : x ∈ bwd ls) : x.2 ∈ ls := by
  have h1 : x.2 ∈ (bwd ls).map Prod.snd := List.mem_map.2 ⟨x, h, rfl⟩
  rw [bwd_snd, List.mem_reverse] at h1
  exact h1
theorem split_at {α : Type} {xs : List α} {j : Nat} {x : α} (h : xs[j]? = some x) : xs = xs.take j ++ x :: xs.drop (j + 1) := by
  have hlt := (List.getElem?_eq_some_iff.1 h).1
  rw [List.getElem?_eq_getElem hlt] at h; injection h with h
  rw [← h, ← List.drop_eq_getElem_cons hlt, List.take_append_drop]
theorem take_snoc {α : Type} {xs : List α} {j : Nat} {x : α} (h : xs[j]? = some x) : xs.take (j + 1) = xs.take j ++ [x] := by rw [List.take_add_one, h]; rfl
theorem fold_bwd (xs : List Bs) (q : Bs) : (bwd xs).foldl (fun o (x : Nat × Bs) => nodeS x.2 o) q = xs.reverse.foldl (fun o r => nodeS r o) q := by
  rw [← bwd_snd, List.foldl_map]
theorem two_at {α : Type} (f : List α → Value) (ps : List (List α)) (p q : List α) : (((ps ++ [p]) ++ [q]).map f)[(ps ++ [p]).length + 1 - 2]? = some (f p) ∧ (((ps ++ [p]) ++ [q]).map f)[(ps ++ [p]).length + 1 - 1]? = some (f q) := by
  have e : (ps ++ [p]).length = ps.length + 1 := by simp
  constructor
  · rw [show (ps ++ [p]).length + 1 - 2 = ps.length by omega]; simp
  · rw [show (ps ++ [p]).length + 1 - 1 = ps.length + 1 by omega]; simp
theorem two_take {α : Type} (f : List α → Value) (ps : List (List α)) (p q : List α) : (((ps ++ [p]) ++ [q]).map f).take (((ps ++ [p]).length + 1 - 2) * 1) = ps.map f := by
  rw [show ((ps ++ [p]).length + 1 - 2) * 1 = (ps.map f).length by simp]
  simp
theorem last_at {α : Type} (f : List α → Value) (ps : List (List α)) (q : List α) : ((ps ++ [q]).map f)[(ps ++ [q]).length - 1]? = some (f q) := by
  rw [show (ps ++ [q]).length - 1 = ps.length by simp]; simp
theorem last_take {α : Type} (f : List α → Value) (ps : List (List α)) (q : List α) : ((ps ++ [q]).map f).take (((ps ++ [q]).length - 1) * 1) = ps.map f := by
  rw [show ((ps ++ [q]).length - 1) * 1 = (ps.map f).length by simp]
  simp
theorem last_of {α : Type} {ps : List α} (h : 0 < ps.length) : ∃ ps' p, ps = ps' ++ [p] := by
  rcases List.eq_nil_or_concat ps with rfl | ⟨a, b, e⟩
  · simp at h
  · exact ⟨a, b, by rw [e, List.concat_eq_append]⟩
theorem fold_len (xs : List (Nat × Bs)) (q : Bs) (hq : q.length = 32) : (xs.foldl (fun o (x : Nat × Bs) => nodeS x.2 o) q).length = 32 := by
  rcases List.eq_nil_or_concat xs with rfl | ⟨ys, y, rfl⟩
  · exact hq
  · rw [List.concat_eq_append, List.foldl_append]; exact sha_len _

theorem backward_spec (p : Option Addr) (n c : Nat) : Does Tryz.prog 60 #[.slice p n c] [] (fun r H' => ∃ b, r = .func (.func 93) #[] #[.pointer (some ⟨b, 0, none⟩)] ∧ H' = [[(b, .cells #[.slice p n c] 35 (0, 0))]]) := by
 refine spec_enter func60 rfl ntmps60 rfl ?_
 intro u R
 refine Zb [0] ?_
 refine Zq <| Zg <| Ze (w_box Y (cs := #[_]) rfl) ?_
 rintro _ _ ⟨b, rfl, rfl⟩
 refine Za Y <| Z0 <| Zx <| Zq <| Zg <| Zv (p_makeFunc (vs := []) (us := [_]) Y Y) ?_
 refine Za Y <| Z0 <| Zx <| at_ret ?_
 refine nx_end1 rfl results60 Y (by exact ⟨_, rfl, rfl⟩)

theorem backward_iter {M : List Chunk} {v : Value} {ls : List Bs} (hv : StrsU M v ls) (b : Nat) (hn : ls.length ≤ 1000000000000) :
    IterSpecA Tryz.prog 93 #[.pointer (some ⟨b, 0, none⟩)] [[(b, .cells #[v] 35 (0, 0))]] (fun s => ∀ c ∈ M, c ∈ s) (fun x => #[.int .i64 ((x.1 : Nat) : Int), strV x.2]) (bwd ls) := by
 have hml : maxLen = 9223372036854775807 := rfl
 obtain ⟨p, cap, rfl, hl, hg⟩ := hv
 intro l J hA hy s hJ
 refine spec_enter func93 rfl ntmps93 rfl ?_
 intro u R
 refine Zb [0, 1] ?_
 refine Zq <| Zg <| Zl isAgg35 Y ?_
 refine Zv (p_len_slice underlying35 Y) ?_
 (refine op_v (p_sub Y Y (IntWalk.i64_in _ ?_)) ?_; (focus (omega)))
 refine Za Y <| Z0 <| Zx <| at_block <| Zb [3, 0, 1] ?_
 refine at_loopB (e0 := [(3, _)]) (H0 := _) (n := _) (fun m e H => ∃ (k : Nat) (s : List Chunk), m = 0 + k ∧ (k ≤ ls.length ∧ J ((bwd ls).take (ls.length - k)) s) ∧ e = [(3, .int .i64 ((k : Int) - 1))] ∧ H = [[(b, .cells #[.slice p ls.length cap] 35 (0, 0))], s]) (by exact ⟨ls.length, s, rfl, ⟨Nat.le_refl _, by rw [Nat.sub_self, List.take_zero]; exact hJ⟩, rfl, rfl⟩) (by repeat (first | exact Pull.nil _ | (apply Pull.cons; (focus (repeat (first | exact One.here _ _ | apply One.there)))))) ?_
 rintro _ _ _ ⟨k, s, rfl, ⟨hk, hJ⟩, rfl, rfl⟩
 refine Zq <| Zq <| Zg <| Zm Y <| Zv (p_geq Y Y) <| Z0 <| Zx ?_
 refine at_if Y (fun hlt => ?_) (fun hlt => ?_)
 ·
  obtain ⟨m, rfl⟩ : ∃ m, k = m + 1 := ⟨k - 1, by omega⟩
  rw [show (((m + 1 : Nat) : Int) - 1) = ((m : Nat) : Int) by omega]
  obtain ⟨z9, hz9⟩ : ∃ z9, ls[m]? = some z9 := ⟨_, List.getElem?_eq_getElem (by omega)⟩
  have hb9 := bwd_at hz9
  obtain ⟨g, o, cur, T, zz, rfl, hm, hex8⟩ := hg m z9 hz9
  have hex9 := hex8
  have hyk := hy _ _ _ s (split_at hb9) hJ
  refine at_skip <| Zx <| Zq <| at_block <| Zq <| Zg <| Zm Y <| Zm Y <| Zl isAgg35 Y ?_
  refine Zm Y ?_
  (refine op_v (p_indexAddr_nat1 underlying35 sizeOf9 Y Y ?_) ?_; (focus (omega)))
  refine op_rm (cs := [(g, .cells cur T zz)]) (by simp [hA _ s hJ _ hm]) (p_load isAgg9 Y (by exact hex9)) rfl rfl ?_
  refine Ze (w_yield (vs := [_, _]) Y Y (hyk) (by repeat (first | exact Pull.nil _ | (apply Pull.cons; (focus (repeat (first | exact One.here _ _ | apply One.there))))))) ?_
  rintro _ _ ⟨_, ⟨s', rfl, rfl, hJ'⟩, rfl⟩
  refine Zv (p_not Y) <| Z0 <| Zx ?_
  refine at_if_bool Y (fun hb => ?_) (fun hb => ?_)
  ·
   cases hb
  ·
   refine at_skip <| nx_block_normal <| Zx <| Zg <| Zm Y ?_
   (refine op_v (p_sub Y Y (IntWalk.i64_in _ ?_)) ?_; (focus (omega)))
   refine Za Y <| Z0 <| Zn [3, 0, 1] ?_
   refine nx_againB (e' := [(3, _)]) (m := _) (H' := _) (by exact ⟨m, s', rfl, ⟨by omega, by rw [show ls.length - m = ls.length - (m + 1) + 1 by omega, take_snoc hb9]; exact hJ'⟩, rfl, rfl⟩)
 ·
  have hk0 : k = 0 := by omega
  subst hk0
  rw [Nat.sub_zero, List.take_of_length_le (by rw [bwd_len]; exact Nat.le_refl _)] at hJ
  refine at_exit <| Zt <| Zt <| nx_block_exit ?_
  refine nx_end0 rfl results93 (by exact ⟨s, rfl, hJ⟩)

theorem root_spec {M : List Chunk} {v : Value} {ls : List Bs} (hv : StrsU M v ls) (hn : ls.length ≤ 1000000) (hs : ∀ s ∈ ls, s.length ≤ 140737488354000) (Tg : TypeId) (zg : Nat × Nat) : DoesR Tryz.prog 22 #[v] [[(0, .cells (kTab.map u32v).toArray Tg zg)], M] (.string (str (rootT ls))) := by
 have hml : maxLen = 9223372036854775807 := rfl
 obtain ⟨p, cap, rfl, hl, hg⟩ := hv
 refine spec_enterM func22 rfl ntmps22 rfl ?_
 intro u R
 refine Zb [0] ?_
 refine Zq <| Zg <| Za Y <| Z0 <| Zx <| Zq <| Zg <| Za Y <| Z0 <| Zx <| Zq <| Zg <| Za Y <| Z0 <| Zx <| Zq <| Zq <| Zg <| Zm Y <| Zv (p_len_slice underlying35 Y) <| Zm Y <| Z0 <| Zx <| at_block ?_
 refine at_nil ?_
 refine at_nil ?_
 refine Zb [3, 4, 13, 11, 12] ?_
 refine at_loopB (e0 := [(3, _), (4, _), (13, _)]) (H0 := _) (n := _) (fun m e H => ∃ (i : Nat) (ps : List (List Bs)) (vw : Value) (sw : List Chunk) (vz : Value) (sz : List Chunk), m = ls.length - i ∧ (i ≤ ls.length ∧ BinP ps ∧ ps.flatten = ls.take i ∧ RowS 1 9 vw ps.length (ps.map rtV) sw ∧ RowS 1 3 vz ps.length (ps.map lnV) sz ∧ ps.length ≤ i) ∧ e = [(3, vw), (4, vz), (13, .int .i64 (i : Int))] ∧ H = [sw, sz]) (by exact ⟨0, [], .slice none 0 0, [], .slice none 0 0, [], rfl, ⟨Nat.zero_le _, binP_nil, rfl, rowS_nil 1 _, rowS_nil 1 _, Nat.le_refl _⟩, rfl, rfl⟩) (by repeat (first | exact Pull.nil _ | (apply Pull.cons; (focus (repeat (first | exact One.here _ _ | apply One.there)))))) ?_
 rintro _ _ _ ⟨i, ps, vw, sw, vz, sz, rfl, ⟨hi, hB, hf, hrw, hrz, hpi⟩, rfl, rfl⟩
 refine Zq <| Zg <| Zv (p_lss_nat Y Y) <| Z0 <| Zx <| Zq ?_
 refine at_if Y (fun hlt => ?_) (fun hlt => ?_)
 ·
  obtain ⟨s9, hs9⟩ : ∃ s9, ls[i]? = some s9 := ⟨_, List.getElem?_eq_getElem hlt⟩
  obtain ⟨g, o, cur, T, zz, rfl, hm9, hex9⟩ := hg i s9 hs9
  obtain ⟨qw, cw, rfl⟩ := hrw.form
  obtain ⟨qz, cz, rfl⟩ := hrz.form
  have hs91 := hs s9 (List.mem_of_getElem? hs9)
  refine at_skip <| Zx <| Zq <| at_block <| Zq <| Zg ?_
  (refine op_v (p_indexAddr_nat1 underlying35 sizeOf9 Y Y ?_) ?_; (focus (omega)))
  refine op_rm (cs := [(g, .cells cur T zz)]) (by simp [hm9]) (p_load isAgg9 Y (by exact hex9)) rfl rfl ?_
  refine Za Y <| Z0 <| Zx <| Zq <| Zg <| Zm Y <| Zm Y <| Zr [_] Y call58 Y rfl (leaf_spec s9 hs91 Tg zg) ?_
  rintro _ _ ⟨rfl, rfl⟩
  refine Ze (w_buildSlice (vs := [_]) (cs := [_]) underlying35 sizeOf9 zeroValue9 Y rfl rfl rfl rfl rfl) ?_
  rintro _ _ ⟨b1, rfl, rfl⟩
  refine Ze (w_appendS (by_ := 16) (sz := 1) (news := [_]) underlying35 (rfl : Tryz.prog.info? 9 = some Tryz.t9) rfl rfl rfl rfl Y hrw Y (by repeat (first | exact One.here _ _ | apply One.there)) (by repeat (first | exact Has.here _ | apply Has.there)) (by rfl) rfl (by simp [Value.oneCell']) (by decide) (by omega) (by omega)) ?_
  rintro _ _ ⟨sw, hrw, rfl⟩
  obtain ⟨gw, cw, rfl⟩ := hrw.form
  refine Zm Y <| Ze (w_buildSlice (vs := [_]) (cs := [_]) underlying61 sizeOf3 zeroValue3 Y rfl rfl rfl rfl rfl) ?_
  rintro _ _ ⟨b3, rfl, rfl⟩
  refine Ze (w_appendS (by_ := 8) (sz := 1) (news := [_]) underlying61 (rfl : Tryz.prog.info? 3 = some Tryz.t3) rfl rfl rfl rfl Y hrz Y (by repeat (first | exact One.here _ _ | apply One.there)) (by repeat (first | exact Has.here _ | apply Has.there)) (by rfl) rfl (by simp [Value.oneCell']) (by decide) (by omega) (by omega)) ?_
  rintro _ _ ⟨sz, hrz, rfl⟩
  obtain ⟨gz, cz, rfl⟩ := hrz.form
  refine Za Y <| Za Y <| Z0 <| Zn [3, 4, 11, 12, 13] ?_
  refine Zx <| Zq <| Zg <| Zm Y <| Zv (p_len_slice underlying61 Y) <| Za Y <| Z0 <| Zx <| at_block <| Zb [3, 4, 7, 11, 12, 13] ?_
  refine at_loopB (e0 := [(3, _), (4, _), (7, _)]) (H0 := _) (n := _) (fun m e H => ∃ (ps2 : List (List Bs)) (q : List Bs) (vw2 : Value) (sw2 : List Chunk) (vz2 : Value) (sz2 : List Chunk), m = 0 + ps2.length ∧ (MergeI ls ps2 q (i + 1) ∧ RowS 1 9 vw2 (ps2.length + 1) ((ps2 ++ [q]).map rtV) sw2 ∧ RowS 1 3 vz2 (ps2.length + 1) ((ps2 ++ [q]).map lnV) sz2 ∧ ps2.length ≤ i) ∧ e = [(3, vw2), (4, vz2), (7, .int .i64 ((ps2.length + 1 : Nat) : Int))] ∧ H = [sw2, sz2]) (by exact ⟨ps, [s9], _, _, _, _, rfl, ⟨merge_new hB hf hs9, rowS_eq hrw rfl (by rw [List.map_append, List.map_singleton]; unfold rtV; rw [root_one]; rfl), rowS_eq hrz rfl (by rw [List.map_append]; rfl), hpi⟩, rfl, rfl⟩) (by repeat (first | exact Pull.nil _ | (apply Pull.cons; (focus (repeat (first | exact One.here _ _ | apply One.there)))))) ?_
  rintro _ _ _ ⟨ps2, q, vw2, sw2, vz2, sz2, rfl, ⟨hM, hrw2, hrz2, hp2⟩, rfl, rfl⟩
  refine Zq <| Zq <| at_draw (n := 15) (0 :: 1 :: 3 :: 7 :: 7 :: 23 :: 63 :: 127 :: 7 :: 7 :: 519 :: 1799 :: 3847 :: 8191 :: 16383 :: []) 0 (by kernel_rfl) (by kernel_rfl) rfl ?_
  refine Zi 1 0 rfl (p_move Y) <| Zi 3 1 rfl (p_gtr_nat (n := 1) Y Y) <| Zi 7 2 rfl (p_move Y) ?_
  refine lin_split (t := 29) Y (fun hn9 => ?_) (fun hn9 => ?_)
  ·
   first | rw [decide_eq_true hn9] | rw [hn9] | skip
   obtain ⟨ps1, p9, rfl⟩ := last_of (ps := ps2) (by omega)
   have hpl : (ps1 ++ [p9]).length = ps1.length + 1 := by simp
   obtain ⟨gw2, cw2, curw2, zw2, rfl, rfl, hlw2, hgw2⟩ := rowS_get (id hrw2) (by omega)
   obtain ⟨gz2, cz2, curz2, zz2, rfl, rfl, hlz2, hgz2⟩ := rowS_get (id hrz2) (by omega)
   have hz1 := hgz2 _ _ (two_at lnV ps1 p9 q).1
   have hz2 := hgz2 _ _ (two_at lnV ps1 p9 q).2
   have hw1 := hgw2 _ _ (two_at rtV ps1 p9 q).1
   have hw2 := hgw2 _ _ (two_at rtV ps1 p9 q).2
   have hql : q.length ≤ ls.length := by have h9 := congrArg List.length hM.flat; rw [List.length_append, List.length_take] at h9; omega
   refine lin_wg (D' := 15) 3 Y rfl rfl rfl (p_move Y) ?_
   refine lin_wg (D' := 31) 4 Y rfl rfl rfl (p_move Y) ?_
   (refine lin_wg (D' := 63) 5 Y rfl rfl rfl (p_sub_nat (n := 2) Y Y ?_ ?_) ?_; (focus (omega)); (focus (omega)))
   (refine lin_wg (D' := 127) 6 Y rfl rfl rfl (p_indexAddr_nat0 underlying61 sizeOf3 Y Y ?_) ?_; (focus (omega)))
   refine lin_rg (D' := 255) 7 Y rfl rfl rfl (by repeat (first | exact Has.here _ | apply Has.there)) (p_load isAgg3 Y (by exact hz1)) ?_
   refine lin_wg (D' := 511) 8 Y rfl rfl rfl (p_move Y) ?_
   refine lin_wg (D' := 1023) 9 Y rfl rfl rfl (p_move Y) ?_
   (refine lin_wg (D' := 2047) 10 Y rfl rfl rfl (p_sub_nat (n := 1) Y Y ?_ ?_) ?_; (focus (omega)); (focus (omega)))
   (refine lin_wg (D' := 4095) 11 Y rfl rfl rfl (p_indexAddr_nat0 underlying61 sizeOf3 Y Y ?_) ?_; (focus (omega)))
   refine lin_rg (D' := 8191) 12 Y rfl rfl rfl (by repeat (first | exact Has.here _ | apply Has.there)) (p_load isAgg3 Y (by exact hz2)) ?_
   refine lin_wg (D' := 16383) 13 Y rfl rfl rfl (p_eql_nat Y Y) ?_
   refine Zi 32767 14 rfl (p_pick_t Y Y) <| lin_nil ?_
   refine Zn [3, 4, 7, 11, 12, 13, 41] ?_
   refine Zx ?_
   refine at_if Y (fun he => ?_) (fun he => ?_)
   ·
    have hst := hM.step he
    refine at_skip <| Zx <| Zq <| at_block <| Zq <| at_draw (n := 18) (0 :: 0 :: 2 :: 7 :: 0 :: 0 :: 32 :: 112 :: 240 :: 0 :: 0 :: 1024 :: 3584 :: 7680 :: 16368 :: 32752 :: 65535 :: 131071 :: []) 114688 (by kernel_rfl) (by kernel_rfl) rfl ?_
    refine Zi 1 0 rfl (p_move Y) <| Zi 3 1 rfl (p_move Y) ?_
    (refine lin_v (D' := 7) 2 (p_sub_nat (n := 2) Y Y ?_ ?_) ?_; (focus (omega)); (focus (omega)))
    (refine lin_v (D' := 15) 3 (p_slice_slice_to underlying35 sizeOf9 Y Y ?_) ?_; (focus (first | omega | (simp; omega))))
    refine Zi 31 4 rfl (p_move Y) <| Zi 63 5 rfl (p_move Y) ?_
    (refine lin_v (D' := 127) 6 (p_sub_nat (n := 2) Y Y ?_ ?_) ?_; (focus (omega)); (focus (omega)))
    (refine lin_v (D' := 255) 7 (p_indexAddr_nat0 underlying35 sizeOf9 Y Y ?_) ?_; (focus (first | omega | (simp; omega))))
    refine Zj 511 8 rfl isAgg9 Y (hv := by exact hw1) ?_
    refine Zi 1023 9 rfl (p_move Y) <| Zi 2047 10 rfl (p_move Y) ?_
    (refine lin_v (D' := 4095) 11 (p_sub_nat (n := 1) Y Y ?_ ?_) ?_; (focus (omega)); (focus (omega)))
    (refine lin_v (D' := 8191) 12 (p_indexAddr_nat0 underlying35 sizeOf9 Y Y ?_) ?_; (focus (first | omega | (simp; omega))))
    refine Zj 16383 13 rfl isAgg9 Y (hv := by exact hw2) ?_
    refine Zz (l := [14]) ?_
    refine Zy 16368 32767 [13, 8] [false, false] [] rfl Y rfl rfl rfl rfl (Zu [_, _] Y call59 Y rfl (node_spec (rootT p9) (rootT q) (by rw [root_len]; omega) (by rw [root_len]; omega) Tg zg)) ?hk_3 (fun _ _ h => h.elim) ?hl_3
    case hk_3 =>
     rintro _ _ ⟨rfl, rfl⟩
     refine ⟨keep_nil, ?_⟩
     refine Zz (l := [15]) ?_
     refine Zy 32752 65535 [] [] [] rfl Y rfl rfl rfl rfl (w_buildSlice (vs := [_]) (cs := [_]) underlying35 sizeOf9 zeroValue9 Y rfl rfl rfl rfl rfl) ?hk_4 (fun _ _ h => h.elim) ?hl_4
     case hk_4 =>
      rintro _ _ ⟨b5, rfl, rfl⟩
      refine ⟨keep_nil, ?_⟩
      refine Zz (l := [16]) ?_
      refine Zy 65535 131071 [] [] [] rfl Y rfl rfl rfl rfl (w_appendS (by_ := 16) (sz := 1) (news := [_]) underlying35 (rfl : Tryz.prog.info? 9 = some Tryz.t9) rfl rfl rfl rfl Y (rowS_take hrw2 ((ps1 ++ [p9]).length + 1 - 2) (by omega)) Y (by repeat (first | exact One.here _ _ | apply One.there)) (by repeat (first | exact Has.here _ | apply Has.there)) (by rfl) rfl (by simp [Value.oneCell']) (by decide) (by omega) (by omega)) ?hk_5 (fun _ _ h => h.elim) ?hl_5
      case hk_5 =>
       rintro _ _ ⟨sw3, hrw3, rfl⟩
       refine ⟨keep_nil, ?_⟩
       obtain ⟨gw3, cw3, rfl⟩ := hrw3.form
       refine Zi 262143 17 rfl (p_assign Y) <| lin_nil ?_
       refine Zn [3, 4, 7, 11, 12, 13] ?_
       refine Zx <| at_draw (n := 13) (0 :: 0 :: 2 :: 7 :: 0 :: 0 :: 32 :: 112 :: 240 :: 496 :: 1008 :: 2047 :: 4095 :: []) 3072 (by kernel_rfl) (by kernel_rfl) rfl ?_
       refine Zi 1 0 rfl (p_move Y) <| Zi 3 1 rfl (p_move Y) ?_
       (refine lin_v (D' := 7) 2 (p_sub_nat (n := 2) Y Y ?_ ?_) ?_; (focus (first | omega | (simp; omega))); (focus (first | omega | (simp; omega))))
       (refine lin_v (D' := 15) 3 (p_slice_slice_to underlying61 sizeOf3 Y Y ?_) ?_; (focus (first | omega | (simp; omega))))
       refine Zi 31 4 rfl (p_move Y) <| Zi 63 5 rfl (p_move Y) ?_
       (refine lin_v (D' := 127) 6 (p_sub_nat (n := 1) Y Y ?_ ?_) ?_; (focus (first | omega | (simp; omega))); (focus (first | omega | (simp; omega))))
       (refine lin_v (D' := 255) 7 (p_indexAddr_nat0 underlying61 sizeOf3 Y Y ?_) ?_; (focus (first | omega | (simp; omega))))
       refine Zj 511 8 rfl isAgg3 Y (hv := by exact hz2) ?_
       (refine lin_v (D' := 1023) 9 (p_mul_nat (m := 2) Y Y ?_) ?_; (focus (first | omega | (simp; omega))))
       refine Zz (l := [10]) ?_
       refine Zy 1008 2047 [8] [false] [] rfl Y rfl rfl rfl rfl (w_buildSlice (vs := [_]) (cs := [_]) underlying61 sizeOf3 zeroValue3 Y rfl rfl rfl rfl rfl) ?hk_6 (fun _ _ h => h.elim) ?hl_6
       case hk_6 =>
        rintro _ _ ⟨b7, rfl, rfl⟩
        refine ⟨keep_nil, ?_⟩
        refine Zz (l := [11]) ?_
        refine Zy 2047 4095 [] [] [] rfl Y rfl rfl rfl rfl (w_appendS (by_ := 8) (sz := 1) (news := [_]) underlying61 (rfl : Tryz.prog.info? 3 = some Tryz.t3) rfl rfl rfl rfl Y (rowS_take hrz2 ((ps1 ++ [p9]).length + 1 - 2) (by omega)) Y (by repeat (first | exact One.here _ _ | apply One.there)) (by repeat (first | exact Has.here _ | apply Has.there)) (by rfl) rfl (by simp [Value.oneCell']) (by decide) (by omega) (by omega)) ?hk_7 (fun _ _ h => h.elim) ?hl_7
        case hk_7 =>
         rintro _ _ ⟨sz3, hrz3, rfl⟩
         refine ⟨keep_nil, ?_⟩
         obtain ⟨gz3, cz3, rfl⟩ := hrz3.form
         refine Zi 8191 12 rfl (p_assign Y) <| lin_nil ?_
         refine Zn [3, 4, 7, 11, 12, 13] ?_
         refine nx_block_normal <| Zx <| Zg <| Zm Y <| Yb (n := 1) Y Y <| Za Y <| Z0 <| Zn [3, 4, 7, 11, 12, 13] ?_
         refine nx_againB (e' := [(3, _), (4, _), (7, _)]) (m := _) (H' := _) (by exact ⟨ps1, p9 ++ q, _, _, _, _, rfl, ⟨hst.1, rowS_eq hrw3 (by omega) (by rw [two_take, List.map_append, List.map_singleton]; unfold rtV; rw [hst.2]; rfl), rowS_eq hrz3 (by omega) (by rw [two_take, List.map_append, List.map_singleton]; unfold lnV; rw [List.length_append, he, ← Nat.two_mul]), by omega⟩, (by rw [show (ps1 ++ [p9]).length + 1 - 1 = ps1.length + 1 by omega]), rfl⟩)
        case hl_7 =>
         exact each_nil
       case hl_6 =>
        exact each_nil
      case hl_5 =>
       exact each_nil
     case hl_4 =>
      exact each_nil
    case hl_3 =>
     exact each_nil
   ·
    have hD := hM.done (fun a b e9 => by have e8 := List.singleton_inj.1 (List.append_inj' e9 rfl).2; rw [← e8]; exact he)
    refine at_exit <| Zt <| Zt <| nx_block_exit <| nx_block_normal <| Zx <| Zg <| Ya (n := 1) Y Y <| Zm Y <| Z0 <| Zn [3, 4, 13, 11, 12] ?_
    refine nx_againB (e' := [(3, _), (4, _), (13, _)]) (m := _) (H' := _) (by exact ⟨i + 1, _, _, _, _, _, rfl, ⟨by omega, hD.1, hD.2, rowS_eq hrw2 (by simp) rfl, rowS_eq hrz2 (by simp) rfl, by rw [List.length_append]; simp; omega⟩, rfl, rfl⟩)
  ·
   first | rw [decide_eq_false hn9] | rw [hn9] | skip
   have hD := hM.done (fun a b e9 => by have e8 := congrArg List.length e9; rw [List.length_append] at e8; simp at e8; omega)
   refine Yk 15 3 rfl <| Yk 31 4 rfl <| Yk 63 5 rfl <| Yk 127 6 rfl <| Yk 255 7 rfl <| Yk 511 8 rfl <| Yk 1023 9 rfl <| Yk 2047 10 rfl <| Yk 4095 11 rfl <| Yk 8191 12 rfl <| Yk 16383 13 rfl <| Zi 32767 14 rfl (p_pick_f Y Y) <| lin_nil ?_
   refine Zn [3, 4, 7, 11, 12, 13, 41] ?_
   refine Zx <| at_else Y <| at_exit <| Zt <| Zt <| nx_block_exit <| nx_block_normal <| Zx <| Zg <| Ya (n := 1) Y Y <| Zm Y <| Z0 <| Zn [3, 4, 13, 11, 12] ?_
   refine nx_againB (e' := [(3, _), (4, _), (13, _)]) (m := _) (H' := _) (by exact ⟨i + 1, _, _, _, _, _, rfl, ⟨by omega, hD.1, hD.2, rowS_eq hrw2 (by simp) rfl, rowS_eq hrz2 (by simp) rfl, by rw [List.length_append]; simp; omega⟩, rfl, rfl⟩)
 ·
  have ei : i = ls.length := by omega
  subst ei
  rw [List.take_of_length_le (Nat.le_refl _)] at hf
  obtain ⟨qw, cw, rfl⟩ := hrw.form
  refine at_exit <| Zt <| Zt <| nx_block_exit <| Zx <| Zq <| Zq <| Zg <| Zm Y <| Zv (p_len_slice underlying35 Y) <| Zv (p_eql_nat (n := 0) Y Y) <| Z0 <| Zx ?_
  refine at_if Y (fun h0 => ?_) (fun h0 => ?_)
  ·
   have e0 := List.eq_nil_of_length_eq_zero h0
   subst e0
   have e1 : ls = [] := hf.symm
   refine Zq <| Zg <| Zr [_] Y call31 Y rfl (sum_str [] (by simp) Tg zg) ?_
   rintro _ _ ⟨rfl, rfl⟩
   refine Za Y <| Z0 <| Zx <| at_ret <| Zt ?_
   refine nx_endM0 rfl (res1 results22 Y) (by exact ⟨by rw [e1, root_nil], rfl⟩)
  ·
   obtain ⟨ps1, q, rfl⟩ := last_of (ps := ps) (by omega)
   obtain ⟨gw2, cw2, curw2, zw2, hev, rfl, hlw2, hgw2⟩ := rowS_get (id hrw) (by omega)
   injection hev with hev1 hev2 hev3
   subst hev1 hev3
   have hw1 := hgw2 _ _ (last_at rtV ps1 q)
   have hql : (ps1 ++ [q]).length = ps1.length + 1 := by simp
   refine at_skip <| Zx <| Zq <| Zg <| Zm Y <| Zm Y <| Zv (p_len_slice underlying35 Y) <| Yb (n := 1) Y Y ?_
   (refine op_v (p_indexAddr_nat0 underlying35 sizeOf9 Y Y ?_) ?_; (focus (omega)))
   refine Zl isAgg9 Y (hv := by exact hw1) ?_
   refine Ze (w_alloc zeroValue9 (cs := #[_]) rfl) ?_
   rintro _ _ ⟨ob, rfl, rfl⟩
   refine Ze (Zs sizeOf9 Y Y rfl (hc := by exact (rfl : _ = (#[strV (rootT q)] : Array Value)))) ?_
   rintro _ _ ⟨rfl, rfl⟩
   refine Z0 <| Zx <| Zq <| Zq <| Zg <| Zm Y <| Zm Y <| Zv (p_len_slice underlying35 Y) <| Yb (n := 1) Y Y ?_
   (refine op_v (p_slice_slice_to underlying35 sizeOf9 Y Y ?_) ?_; (focus (first | omega | (simp; omega))))
   refine Zc [_] Y call60 Y rfl (backward_spec _ _ _) ?_
   rintro _ _ ⟨_, ⟨bb, rfl, rfl⟩, rfl⟩
   refine Z0 <| Zn [8, 89] ?_
   refine Zx <| at_block <| Zb [8, 89] ?_
   refine at_rangeAllA (H0 := _) (R := _) (I := (fun pre H => H = [[(ob, .cells #[strV (pre.foldl (fun o (x : Nat × Bs) => nodeS x.2 o) (rootT q))] 9 (0, 0))], [(gw2, .cells curw2 9 zw2)], [(0, .cells (kTab.map u32v).toArray Tg zg)]])) (asg := fun x => [(10, strV x.2), (91, strV x.2), (90, .int .i64 ((x.1 : Nat) : Int))]) rfl Y call93 (backward_iter (ls := ps1.map rootT) (v := .slice (some ⟨gw2, 0, none⟩) ((ps1 ++ [q]).length - 1) cw) (strsU_row (rowS_eq (rowS_take hrw ((ps1 ++ [q]).length - 1) (by omega)) (by simp) (by rw [last_take, List.map_map]; rfl)) (by rw [List.length_map]; omega)) bb (by rw [List.length_map]; omega)) (fun pre H1 c d h => by subst h; intro x hx; simp at hx; simp [hx]) Y rfl (by repeat (first | exact Pull.nil _ | (apply Pull.cons; (focus (repeat (first | exact One.here _ _ | apply One.there)))))) (rfl) ?ha_13 ?hbd_13 ?hk_13
   case ha_13 =>
    intro _ x _ _
    refine Zg <| Za Y <| Z0 ?_
    exact nx_is
   case hbd_13 =>
    intro l pre x post u H1 R1 hxs hI
    subst hI
    refine at_block <| Zg <| Zm Y <| Zl isAgg9 Y ?_
    refine Zr [_, _] Y call59 Y rfl (node_spec x.2 _ (by obtain ⟨y9, _, e9⟩ := List.mem_map.1 (bwd_mem (mem_split hxs)); rw [← e9, root_len]; omega) (by rw [fold_len _ _ (root_len q)]; omega) Tg zg) ?_
    rintro _ _ ⟨rfl, rfl⟩
    refine Ze (Zs sizeOf9 Y Y rfl) ?_
    rintro _ _ ⟨rfl, rfl⟩
    refine Z0 <| nx_block_normal ?_
    refine nx_round (H' := _) rfl (by rw [List.foldl_append])
   case hk_13 =>
    intro D1 H2 hI2
    subst hI2
    refine Zn [8] ?_
    refine nx_block_normal <| Zx <| Zq <| Zg <| Zl isAgg9 Y ?_
    refine Za Y <| Z0 <| Zx <| at_ret ?_
    refine nx_endM1 rfl (res1 results22 Y) (by repeat (first | exact One.here _ _ | apply One.there)) (by exact ⟨by rw [fold_bwd, fold_rev, hB.root, ← hf]; simp, rfl⟩)

end Go.Proofs.YtjeepldonhgohaaGreatDoor
