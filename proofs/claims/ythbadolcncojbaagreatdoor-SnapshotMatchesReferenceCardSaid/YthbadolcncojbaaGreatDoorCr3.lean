/- Contracts: slices.Values, AppendSeq, Collect, Sort, Sorted, Compact at int; the has of the reference. Contracts: slices.IndexFunc and DeleteFunc with the function of disk.Crash; disk.Crash; the Crash of the reference. Contracts: disk.Crash; the Crash of the reference. -/
import Derived.Test.YthbadolcncojbaaGreatDoorEz
import Derived.Test.YthbadolcncojbaaGreatDoorRd2
import Derived.Test.YthbadolcncojbaaGreatDoorJm6
import Derived.Test.YthbadolcncojbaaGreatDoorEx13
import Derived.Shelf.Slices.In.SortNone

namespace Go.Proofs.YthbadolcncojbaaGreatDoor
open Go.Proofs.Tryz
open Go Go.RowKit Gw
set_option linter.unusedVariables false
set_option maxRecDepth 100000
attribute [local irreducible] Gw.At Gw.Nx Gw.Ops
open Go.Sort
def iv (z : Int) : Value := .int .i64 z
/-- In the memory M the value v is a row of integers. -/
def IntsIn (M : List Chunk) (v : Value) (zs : List Int) : Prop := ∃ p cap, v = .slice p zs.length cap ∧ (zs.length ≤ maxLen ∧ zs.length ≤ cap) ∧ ∀ (i : Nat) (z : Int), zs[i]? = some z → ∃ g o cur T zz, p = some ⟨g, o, none⟩ ∧ (g, Obj.cells cur T zz) ∈ M ∧ cur[o + i]? = some (iv z)
theorem IntsIn.take {M : List Chunk} {p : Option Addr} {cap : Nat} {zs : List Int} (h : IntsIn M (.slice p zs.length cap) zs) (n : Nat) (hn : n ≤ zs.length) : IntsIn M (.slice p n cap) (zs.take n) := by
  obtain ⟨p', cap', e, hl, hg⟩ := h
  injection e with e1 e2 e3
  subst e1
  have hlen : (zs.take n).length = n := by rw [List.length_take]; omega
  refine ⟨p, cap, by rw [hlen], by rw [hlen, e3]; omega, fun i z hz => hg i z ?_⟩
  rw [List.getElem?_take] at hz
  split at hz
  · exact hz
  · cases hz
theorem strict_eq : ∀ (a b : List Int), a.Pairwise (· < ·) → b.Pairwise (· < ·) → (∀ x, x ∈ a ↔ x ∈ b) → a = b
  | [], b, _, _, h => by
    cases b with
    | nil => rfl
    | cons y b => have := (h y).2 (by simp); cases this
  | x :: a, b, ha, hb, h => by
    cases b with
    | nil => have := (h x).1 (by simp); cases this
    | cons y b =>
      rw [List.pairwise_cons] at ha hb
      have h1 : x ∈ y :: b := (h x).1 (by simp)
      have h2 : y ∈ x :: a := (h y).2 (by simp)
      have e : x = y := by
        rcases List.mem_cons.1 h1 with h1 | h1
        · exact h1
        · rcases List.mem_cons.1 h2 with h2 | h2
          · exact h2.symm
          · have := hb.1 x h1; have := ha.1 y h2; omega
      subst e
      congr 1
      refine strict_eq a b ha.2 hb.2 fun z => ⟨fun hz => ?_, fun hz => ?_⟩
      · rcases List.mem_cons.1 ((h z).1 (by simp [hz])) with h3 | h3
        · have := ha.1 z hz; omega
        · exact h3
      · rcases List.mem_cons.1 ((h z).2 (by simp [hz])) with h3 | h3
        · have := hb.1 z hz; omega
        · exact h3
theorem compact_up (d : Array Int) (hs : ∀ i j, i ≤ j → j < d.size → d[i]! ≤ d[j]!) : ∀ m, m ≤ d.size → (Lib.compactUpTo d m).Pairwise (· < ·) ∧ (∀ x, x ∈ Lib.compactUpTo d m ↔ ∃ j, j < m ∧ d[j]! = x)
  | 0, _ => ⟨by simp [Lib.compactUpTo], fun x => by simp [Lib.compactUpTo]⟩
  | m + 1, hm => by
    obtain ⟨h1, h2⟩ := compact_up d hs m (by omega)
    rw [Lib.compactUpTo_succ]
    by_cases hk : Lib.keeps d m = true
    · rw [if_pos hk]
      refine ⟨?_, fun x => ?_⟩
      · rw [List.pairwise_append]
        refine ⟨h1, by simp, fun a ha b hb => ?_⟩
        obtain ⟨j, hj, rfl⟩ := (h2 a).1 ha
        rw [List.mem_singleton.1 hb]
        have hk' := of_decide_eq_true hk
        rcases hk' with h0 | h0
        · omega
        · have g1 := hs j (m - 1) (by omega) (by omega)
          have g2 := hs (m - 1) m (by omega) (by omega)
          omega
      · rw [List.mem_append, h2, List.mem_singleton]
        constructor
        · rintro (⟨j, hj, hx⟩ | rfl)
          · exact ⟨j, by omega, hx⟩
          · exact ⟨m, by omega, rfl⟩
        · rintro ⟨j, hj, hx⟩
          rcases Nat.lt_or_ge j m with h3 | h3
          · exact .inl ⟨j, h3, hx⟩
          · have : j = m := by omega
            subst this; exact .inr hx.symm
    · rw [if_neg hk, List.append_nil]
      refine ⟨h1, fun x => ?_⟩
      rw [h2]
      constructor
      · rintro ⟨j, hj, hx⟩; exact ⟨j, by omega, hx⟩
      · rintro ⟨j, hj, hx⟩
        rcases Nat.lt_or_ge j m with h3 | h3
        · exact ⟨j, h3, hx⟩
        · have hjm : j = m := by omega
          subst hjm
          have : ¬ (j = 0 ∨ d[j]! ≠ d[j - 1]!) := fun h4 => hk (decide_eq_true h4)
          have h5 : ¬ j = 0 := fun h6 => this (.inl h6)
          have h7 : d[j]! = d[j - 1]! := Classical.not_not.1 fun h6 => this (.inr h6)
          exact ⟨j - 1, by omega, by rw [← h7]; exact hx⟩
/-- The list sorted, each once. -/
def sortU (zs : List Int) : List Int := Lib.compact (zs.mergeSort fun x y => decide (x ≤ y))
theorem sortU_spec (zs : List Int) : (sortU zs).Pairwise (· < ·) ∧ ∀ x, x ∈ sortU zs ↔ x ∈ zs := by
  have hp := List.mergeSort_perm zs fun x y => decide (x ≤ y)
  have hs := List.pairwise_mergeSort (le := fun x y : Int => decide (x ≤ y)) (fun a b c h1 h2 => by simp only [decide_eq_true_eq] at *; omega) (fun a b => by simp only [Bool.or_eq_true, decide_eq_true_eq]; omega) zs
  unfold sortU
  generalize hts : zs.mergeSort (fun x y => decide (x ≤ y)) = ts at *
  have hord : ∀ i j, i ≤ j → j < ts.toArray.size → ts.toArray[i]! ≤ ts.toArray[j]! := by
    intro i j hij hj
    have hj' : j < ts.length := by simpa using hj
    rcases Nat.lt_or_ge i j with h1 | h1
    · have := List.pairwise_iff_getElem.1 hs i j (by omega) hj' h1
      simp only [decide_eq_true_eq] at this
      rw [getElem!_pos ts.toArray i (by simp; omega), getElem!_pos ts.toArray j hj]
      simpa using this
    · have : i = j := by omega
      subst this; exact Int.le_refl _
  obtain ⟨h1, h2⟩ := compact_up ts.toArray hord ts.length (by simp)
  refine ⟨h1, fun x => ?_⟩
  unfold Lib.compact
  rw [h2, ← hp.mem_iff, List.mem_iff_getElem]
  constructor
  · rintro ⟨j, hj, hx⟩
    exact ⟨j, hj, by rw [← hx, getElem!_pos ts.toArray j (by simpa using hj)]; simp⟩
  · rintro ⟨j, hj, hx⟩
    exact ⟨j, hj, by rw [getElem!_pos ts.toArray j (by simpa using hj)]; simpa using hx⟩
theorem sortU_len (zs : List Int) : (sortU zs).length ≤ zs.length := by
  have h1 : (sortU zs).length ≤ (zs.mergeSort fun x y => decide (x ≤ y)).length := by
    unfold sortU Lib.compact Lib.compactUpTo
    rw [List.length_map]
    exact Nat.le_trans (List.length_filter_le ..) (by simp)
  rw [(List.mergeSort_perm zs _).length_eq] at h1; exact h1
theorem sort_spec {v : Value} {zs : List Int} {s : List Chunk} (hr : Row 3 v (zs.map iv) s) (hl : zs.length ≤ 1000000) : Does Tryz.prog 128 #[v] [s] (fun r H' => ∃ s', r = .tuple #[] ∧ Row 3 v ((zs.mergeSort fun x y => decide (x ≤ y)).map iv) s' ∧ H' = [s']) := fun u R w hs => by
  have hlen := (List.mergeSort_perm zs fun x y => decide (x ≤ y)).length_eq
  rcases hr with ⟨rfl, h0, rfl⟩ | ⟨g, cap, cur, z, rfl, rfl, hle, hcm, hcs, htk, hfr⟩
  · have hx : zs = [] := by simpa using h0
    subst hx
    refine (Any.slices_Sort_int_none Tryz.lays189 none 0 w).mono ?_
    rintro e w' ⟨rfl, rfl⟩
    exact .inl ⟨_, [[]], rfl, ⟨[], rfl, by simp [row_nil], rfl⟩, hs⟩
  · rw [List.length_map] at hle htk ⊢
    have hs1 : Sat u ([(g, .cells cur 3 z)] :: R) w := by simpa using hs
    have hb := hs1.get (g, .cells cur 3 z) (by simp)
    have hH := holds_free hb (by omega) hfr htk
    refine (Tryz.slices_Sort_int g 0 cap zs w hH (Array.getElem?_eq_some_iff.1 hb).1 (by omega)).mono ?_
    rintro e w' ⟨rfl, n, os, rfl⟩
    refine .inl ⟨_, [[(g, .cells (putCells (Value.int .i64) 0 (zs.mergeSort fun x y => decide (x ≤ y)).toArray cur) 3 z)]], rfl, ⟨_, rfl, ?_, rfl⟩, by simpa using hs1.sorted (n := n) _ os⟩
    refine .inr ⟨g, cap, _, z, by rw [List.length_map, hlen], rfl, by rw [List.length_map, hlen]; exact hle, hcm, by rw [put_size']; exact hcs, ?_, by rw [put_size']; exact hfr⟩
    rw [List.length_map]; exact put_take _ _ (by omega)
theorem compact_spec {v : Value} {zs : List Int} {s : List Chunk} (hr : Row 3 v (zs.map iv) s) (hl : zs.length ≤ 1000000) : Does Tryz.prog 78 #[v] [s] (fun r H' => ∃ s', Row 3 r ((Lib.compact zs).map iv) s' ∧ H' = [s']) := fun u R w hs => by
  rcases hr with ⟨rfl, h0, rfl⟩ | ⟨g, cap, cur, z, rfl, rfl, hle, hcm, hcs, htk, hfr⟩
  · have hx : zs = [] := by simpa using h0
    subst hx
    refine (Tryz.slices_Compact_int_empty none 0 w).mono ?_
    rintro e w' ⟨rfl, rfl⟩
    exact .inl ⟨_, [[]], rfl, ⟨[], by simpa [Lib.compact, Lib.compactUpTo] using row_nil _, rfl⟩, hs⟩
  · rw [List.length_map] at hle htk ⊢
    have hs1 : Sat u ([(g, .cells cur 3 z)] :: R) w := by simpa using hs
    have hb := hs1.get (g, .cells cur 3 z) (by simp)
    have hH := holds_free hb (by omega) hfr htk
    have hcl : (Lib.compact zs).length ≤ zs.length := by
      unfold Lib.compact Lib.compactUpTo
      rw [List.length_map]
      exact Nat.le_trans (List.length_filter_le ..) (by simp)
    refine (Tryz.slices_Compact_int g 0 cap zs w hH (by omega) hle).mono ?_
    rintro e w' ⟨rfl, n, rfl⟩
    have hpt := put_take cur (Lib.compact zs ++ List.replicate (zs.length - (Lib.compact zs).length) 0) (by rw [List.length_append, List.length_replicate]; omega)
    refine .inl ⟨_, [[(g, .cells (putCells (Value.int .i64) 0 (Lib.compact zs ++ List.replicate (zs.length - (Lib.compact zs).length) 0).toArray cur) 3 z)]], rfl, ⟨_, ?_, rfl⟩, by simpa using hs1.compacted (n := n) _⟩
    refine .inr ⟨g, cap, _, z, by rw [List.length_map], rfl, by rw [List.length_map]; omega, hcm, by rw [put_size']; exact hcs, ?_, by rw [put_size']; exact hfr⟩
    have := congrArg (List.take (Lib.compact zs).length) hpt
    rw [List.take_take, List.length_append, List.length_replicate, Nat.min_eq_left (by omega), List.map_append, List.take_left' (by rw [List.length_map])] at this
    rw [List.length_map]; exact this

theorem has_spec {M : List Chunk} {v : Value} {zs : List Int} (hv : IntsIn M v zs) (n : Nat) : DoesR Tryz.prog 126 #[v, .int .i64 (n : Int)] [M] (.bool (decide ((n : Int) ∈ zs))) := by
 have hml : maxLen = 9223372036854775807 := rfl
 obtain ⟨p, cap, rfl, hl, hg⟩ := hv
 refine spec_enter func126 rfl ntmps126 rfl ?_
 intro u R
 refine Zb [0, 1] ?_
 refine Zq <| Zg <| Za Y <| Z0 <| Zx <| Zq <| Zq <| Zg <| Za Y <| Z0 <| Zx <| at_block <| Zb [5, 0, 1] ?_
 refine at_loopB (e0 := [(5, _)]) (H0 := _) (n := _) (fun m e H => ∃ (i : Nat), m = zs.length - i ∧ (i ≤ zs.length ∧ ∀ x ∈ zs.take i, x ≠ (n : Int)) ∧ e = [(5, .int .i64 (i : Int))] ∧ H = []) (by exact ⟨0, rfl, ⟨Nat.zero_le _, by simp⟩, rfl, rfl⟩) (by repeat (first | exact Pull.nil _ | (apply Pull.cons; (focus (repeat (first | exact One.here _ _ | apply One.there)))))) ?_
 rintro _ _ _ ⟨i, rfl, ⟨hi, hno⟩, rfl, rfl⟩
 refine Zq <| Zq <| Zg <| Zm Y <| Zm Y <| Zv (p_len_slice underlying76 Y) ?_
 first | refine op_v (p_lss_nat Y Y) ?_ | refine op_v (p_lss Y Y) ?_
 refine Z0 <| Zx ?_
 first | refine at_if Y (fun hlt => ?_) (fun hlt => ?_) | refine at_if_bool Y (fun hlt => ?_) (fun hlt => ?_)
 ·
  refine at_skip <| Zx <| Zq <| at_block <| Zq ?_
  obtain ⟨z, hz⟩ : ∃ z, zs[i]? = some z := ⟨_, List.getElem?_eq_getElem hlt⟩
  obtain ⟨g, o, cur, T, zz, rfl, hm, hc⟩ := hg i z hz
  refine Zg <| Zm Y <| Zm Y ?_
  first | (refine op_v (p_indexAddr_nat0 underlying76 sizeOf3 Y Y ?_) ?_; (focus (omega))) | (refine op_v (p_indexAddr_nat1 underlying76 sizeOf3 Y Y ?_) ?_; (focus (omega)))
  refine op_rm (cs := [(g, .cells cur T zz)]) (by simp [hm]) (p_load isAgg3 Y (by first | exact hc | (rw [Nat.mul_one]; exact hc))) rfl rfl ?_
  refine Zm Y ?_
  first | refine op_v (p_eql_nat Y Y) ?_ | refine op_v (p_eql Y Y) ?_
  refine Z0 <| Zx ?_
  first | refine at_if Y (fun hne => ?_) (fun hne => ?_) | refine at_if_bool Y (fun hne => ?_) (fun hne => ?_)
  ·
   have hd : decide ((n : Int) ∈ zs) = true := decide_eq_true (by rw [← hne]; exact List.mem_of_getElem? hz)
   refine Zq <| Zg <| Za Y <| Z0 <| Zx <| at_ret <| nx_block_ret <| Zt <| Zt <| nx_block_ret <| Zt ?_
   refine nx_end1 rfl results126 Y (by exact ⟨by rw [hd], rfl⟩)
  ·
   refine at_skip <| nx_block_normal <| Zx <| Zg <| Zm Y ?_
   first | (refine op_v (p_add_nat (n := 1) Y Y ?_) ?_; (focus (omega))) | (refine op_v (p_add Y Y (IntWalk.i64_in _ ?_)) ?_; (focus (omega)))
   refine Za Y <| Z0 <| Zn [5, 0, 1] ?_
   refine nx_againB (e' := [(5, _)]) (m := _) (H' := _) (by
         exact ⟨i + 1, rfl, ⟨by omega, by
           rw [List.take_add_one, hz]; intro x hx; rcases List.mem_append.1 hx with h | h
           · exact hno x h
           · simp only [Option.toList_some, List.mem_singleton] at h; rw [h]; exact hne⟩, rfl, rfl⟩)
 ·
  have hd : decide ((n : Int) ∈ zs) = false := decide_eq_false (fun h => by
    rw [List.take_of_length_le (by omega)] at hno; exact hno _ h rfl)
  refine at_exit <| Zt <| Zt <| nx_block_exit <| Zx <| Zq <| Zg <| Za Y <| Z0 <| Zx <| at_ret ?_
  refine nx_end1 rfl results126 Y (by exact ⟨by rw [hd], rfl⟩)

theorem values_spec (p : Option Addr) (n c : Nat) : Does Tryz.prog 80 #[.slice p n c] [] (fun r H' => ∃ b, r = .func (.func 129) #[] #[.pointer (some ⟨b, 0, none⟩)] ∧ H' = [[(b, .cells #[.slice p n c] 76 (0, 0))]]) := by
 refine spec_enter func80 rfl ntmps80 rfl ?_
 intro u R
 refine Zb [0] ?_
 refine Zq <| Zg <| Ze (w_box Y (cs := #[_]) rfl) ?_
 rintro _ _ ⟨b, rfl, rfl⟩
 refine Za Y <| Z0 <| Zx <| Zq <| Zg <| Zv (p_makeFunc (vs := []) (us := [_]) Y Y) ?_
 refine Za Y <| Z0 <| Zx <| at_ret ?_
 refine nx_end1 rfl results80 Y (by exact ⟨b, rfl, rfl⟩)

theorem values_iter {M : List Chunk} {v : Value} {zs : List Int} (hv : IntsIn M v zs) (b : Nat) (hn : zs.length ≤ 1000000) :
    IterSpecA Tryz.prog 129 #[.pointer (some ⟨b, 0, none⟩)] [[(b, .cells #[v] 76 (0, 0))]] (fun s => ∀ c ∈ M, c ∈ s) (fun z => #[iv z]) zs := by
 have hml : maxLen = 9223372036854775807 := rfl
 obtain ⟨p, cap, rfl, hl, hg⟩ := hv
 intro l J hA hy s hJ
 refine spec_enter func129 rfl ntmps129 rfl ?_
 intro u R
 refine Zb [0, 1] ?_
 refine Zq <| Zg <| Zl isAgg76 Y ?_
 refine Zv (p_len_slice underlying76 Y) <| Zm Y <| Z0 <| Zx <| at_block <| Zb [7, 0, 5, 6] ?_
 refine at_loopB (e0 := [(7, _)]) (H0 := _) (n := _) (fun m e H => ∃ (k : Nat) (s : List Chunk), m = zs.length - k ∧ (k ≤ zs.length ∧ J (zs.take k) s) ∧ e = [(7, .int .i64 (k : Int))] ∧ H = [s]) (by exact ⟨0, s, rfl, ⟨Nat.zero_le _, hJ⟩, rfl, rfl⟩) (by repeat (first | exact Pull.nil _ | (apply Pull.cons; (focus (repeat (first | exact One.here _ _ | apply One.there)))))) ?_
 rintro _ _ _ ⟨k, s, rfl, ⟨hk, hJ⟩, rfl, rfl⟩
 refine Zq <| Zg ?_
 first | refine op_v (p_lss_nat Y Y) ?_ | refine op_v (p_lss Y Y) ?_
 refine Z0 <| Zx <| Zq ?_
 first | refine at_if Y (fun hlt => ?_) (fun hlt => ?_) | refine at_if_bool Y (fun hlt => ?_) (fun hlt => ?_)
 ·
  refine at_skip <| Zx <| Zq <| at_block <| Zq ?_
  obtain ⟨z, hz⟩ : ∃ z, zs[k]? = some z := ⟨_, List.getElem?_eq_getElem hlt⟩
  obtain ⟨g, o, cur, T, zz, rfl, hm, hc⟩ := hg k z hz
  have hsp : zs = zs.take k ++ z :: zs.drop (k + 1) := by
    rw [List.getElem?_eq_getElem hlt] at hz; injection hz with hz; rw [← hz, ← List.drop_eq_getElem_cons hlt, List.take_append_drop]
  have hyk := hy (zs.take k) z (zs.drop (k + 1)) s hsp hJ
  refine Zg ?_
  first | (refine op_v (p_indexAddr_nat0 underlying76 sizeOf3 Y Y ?_) ?_; (focus (omega))) | (refine op_v (p_indexAddr_nat1 underlying76 sizeOf3 Y Y ?_) ?_; (focus (omega)))
  refine op_rm (cs := [(g, .cells cur T zz)]) (by simp [hA _ s hJ _ hm]) (p_load isAgg3 Y (by first | exact hc | (rw [Nat.mul_one]; exact hc))) rfl rfl ?_
  refine Za Y <| Z0 <| Zx <| Zq <| Zg <| Zm Y <| Zm Y <| Ze (w_yield (vs := [_]) Y Y (hyk) (by repeat (first | exact Pull.nil _ | (apply Pull.cons; (focus (repeat (first | exact One.here _ _ | apply One.there))))))) ?_
  rintro _ _ ⟨_, ⟨s', rfl, rfl, hJ'⟩, rfl⟩
  first | refine op_v (p_not_dec Y) ?_ | refine op_v (p_not Y) ?_
  refine Z0 <| Zx ?_
  first | refine at_if Y (fun hb => ?_) (fun hb => ?_) | refine at_if_bool Y (fun hb => ?_) (fun hb => ?_)
  ·
   cases hb
  ·
   refine at_skip <| nx_block_normal <| Zx <| Zg ?_
   first | (refine op_v (p_add_nat (n := 1) Y Y ?_) ?_; (focus (omega))) | (refine op_v (p_add Y Y (IntWalk.i64_in _ ?_)) ?_; (focus (omega)))
   refine Zm Y <| Z0 <| Zn [7, 0, 5, 6] ?_
   refine nx_againB (e' := [(7, _)]) (m := _) (H' := _) (by exact ⟨k + 1, s', rfl, ⟨by omega, by rw [List.take_add_one, hz]; exact hJ'⟩, rfl, rfl⟩)
 ·
  rw [List.take_of_length_le (show zs.length ≤ k by omega)] at hJ
  refine at_exit <| Zt <| Zt <| nx_block_exit ?_
  refine nx_end0 rfl results129 (by exact ⟨s, rfl, hJ⟩)

theorem appendSeq_spec {M : List Chunk} {v : Value} {zs : List Int} (hv : IntsIn M v zs) (b : Nat) (hn : zs.length ≤ 1000000) : Does Tryz.prog 157 #[.slice none 0 0, .func (.func 129) #[] #[.pointer (some ⟨b, 0, none⟩)]] [[(b, .cells #[v] 76 (0, 0))], M] (fun r H' => ∃ s', Row 3 r (zs.map iv) s' ∧ H' = [M, s']) := by
 have hml : maxLen = 9223372036854775807 := rfl
 refine spec_enterM func157 rfl ntmps157 rfl ?_
 intro u R
 refine Zb [0, 1] ?_
 refine Zq <| Zg <| Ze (w_box Y (cs := #[_]) rfl) ?_
 rintro _ _ ⟨bs, rfl, rfl⟩
 refine Za Y <| Z0 <| Zx <| Zq <| Zq <| Zg <| Zm Y <| Z0 <| Zx <| at_block <| Zb [2, 6] ?_
 refine at_nil ?_
 refine at_rangeAllA (H0 := _) (R := _) (I := (fun pre H => ∃ v2 s2, H = [[(bs, .cells #[v2] 76 (0, 0))], s2, M] ∧ Row 3 v2 (pre.map iv) s2)) (asg := fun x => [(5, iv x), (7, iv x)]) rfl Y call129 (values_iter hv b hn) (fun pre H1 c d h => by obtain ⟨v2, s2, rfl, _⟩ := h; intro x hx; simp [hx]) Y rfl (by repeat (first | exact Pull.nil _ | (apply Pull.cons; (focus (repeat (first | exact One.here _ _ | apply One.there)))))) (⟨_, [], rfl, row_nil _⟩) ?ha_2 ?hbd_2 ?hk_2
 case ha_2 =>
  intro _ x _ _
  refine Zg <| Za Y <| Z0 ?_
  exact nx_is
 case hbd_2 =>
  intro l pre x post u H1 R1 hxs hI
  obtain ⟨v2, s2, rfl, hr⟩ := hI
  have hpl := congrArg List.length hxs
  rw [List.length_append, List.length_cons] at hpl
  obtain ⟨gv, cv, rfl⟩ := hr.form
  refine at_block <| Zg <| Zl isAgg76 Y ?_
  refine Zm Y <| Ze (w_buildSlice (vs := [_]) (cs := [_]) underlying76 sizeOf3 zeroValue3 Y rfl rfl rfl rfl rfl) ?_
  rintro _ _ ⟨b2, rfl, rfl⟩
  refine Ze (w_append (by_ := 8) (news := [_]) underlying76 (rfl : Tryz.prog.info? 3 = some Tryz.t3) rfl rfl rfl rfl Y hr Y (by repeat (first | exact One.here _ _ | apply One.there)) (by repeat (first | exact Has.here _ | apply Has.there)) (by rfl) rfl (by simp [Value.oneCell', iv]) (by decide) (by (simp only [List.length_map]; omega)) (by (simp only [List.length_map]; omega))) ?_
  rintro _ _ ⟨sq, hrq, rfl⟩
  obtain ⟨gq, cq, rfl⟩ := hrq.form
  refine Ze (Zs sizeOf76 Y Y rfl) ?_
  rintro _ _ ⟨rfl, rfl⟩
  refine Z0 <| nx_block_normal ?_
  refine nx_round (H' := _) rfl (by exact ⟨_, _, rfl, by rw [List.map_append]; exact hrq⟩)
 case hk_2 =>
  intro D1 H2 hI2
  obtain ⟨v2, s2, rfl, hr⟩ := hI2
  refine Zn [2] ?_
  refine nx_block_normal <| Zx <| Zq <| Zg <| Zl isAgg76 Y ?_
  refine Za Y <| Z0 <| Zx <| at_ret ?_
  refine nx_endM1 rfl (res1 results157 Y) (by repeat (first | exact One.here _ _ | apply One.there)) (by exact ⟨s2, hr, rfl⟩)

theorem collect_spec {M : List Chunk} {v : Value} {zs : List Int} (hv : IntsIn M v zs) (b : Nat) (hn : zs.length ≤ 1000000) : Does Tryz.prog 127 #[.func (.func 129) #[] #[.pointer (some ⟨b, 0, none⟩)]] [[(b, .cells #[v] 76 (0, 0))], M] (fun r H' => ∃ s', Row 3 r (zs.map iv) s' ∧ H' = [M, s']) := by
 refine spec_enter func127 rfl ntmps127 rfl ?_
 intro u R
 refine Zb [0] ?_
 refine Zq <| Zg <| Za Y <| Z0 <| Zx <| Zq <| Zg <| Zm Y <| Zc [_, _] Y call157 Y rfl (appendSeq_spec hv b hn) ?_
 rintro _ _ ⟨_, ⟨s2, hr, rfl⟩, rfl⟩
 refine Za Y <| Z0 <| Zx <| at_ret ?_
 refine nx_end1 rfl results127 Y (by exact ⟨s2, hr, rfl⟩)

theorem sorted_spec {M : List Chunk} {v : Value} {zs : List Int} (hv : IntsIn M v zs) (b : Nat) (hn : zs.length ≤ 1000000) : Does Tryz.prog 79 #[.func (.func 129) #[] #[.pointer (some ⟨b, 0, none⟩)]] [[(b, .cells #[v] 76 (0, 0))], M] (fun r H' => ∃ s', Row 3 r ((zs.mergeSort fun x y => decide (x ≤ y)).map iv) s' ∧ H' = [M, s']) := by
 refine spec_enter func79 rfl ntmps79 rfl ?_
 intro u R
 refine Zb [0] ?_
 refine Zq <| Zg <| Za Y <| Z0 <| Zx <| Zq <| Zg <| Zm Y <| Zc [_] Y call127 Y rfl (collect_spec hv b hn) ?_
 rintro _ _ ⟨_, ⟨s2, hr, rfl⟩, rfl⟩
 refine Za Y <| Z0 <| Zx <| Zq <| Zg <| Zm Y <| Zc [_] Y call128 Y rfl (sort_spec hr hn) ?_
 rintro _ _ ⟨_, ⟨s3, rfl, hr3, rfl⟩, rfl⟩
 refine Z0 <| Zx <| Zq <| Zg <| Zm Y <| Za Y <| Z0 <| Zx <| at_ret ?_
 refine nx_end1 rfl results79 Y (by exact ⟨s3, hr3, rfl⟩)

/-- What disk.Crash leaves out. -/
def delB (k : Nat) (z : Int) : Bool := decide (z < 0) || decide ((k : Int) ≤ z)
def keptL (k : Nat) (zs : List Int) : List Nat := (List.range k).filter fun i => decide ((i : Int) ∈ zs)
def keptW (pend : List (Nat × List UInt8)) (zs : List Int) : List (Nat × List UInt8) := (keptL pend.length zs).map fun i => pend.getD i (0, [])
/-- Of the last one only a part. -/
def tornL (torn : Int) (ws : List (Nat × List UInt8)) : List (Nat × List UInt8) := ws.mapIdx fun i p => if i + 1 = ws.length ∧ 0 ≤ torn then (p.1, p.2.take torn.toNat) else p
def DiskS.crash (d : DiskS) (zs : List Int) (torn : Int) : DiskS := ⟨false, 0, vis d.du (tornL torn (keptW d.pend zs)), vis d.du (tornL torn (keptW d.pend zs)), []⟩
theorem keptL_lt {k : Nat} {zs : List Int} {i : Nat} (h : i ∈ keptL k zs) : i < k := List.mem_range.1 (List.mem_filter.1 h).1
theorem kept_eq (k : Nat) (zs : List Int) : (sortU zs).filter (fun z => !delB k z) = (keptL k zs).map (fun i : Nat => (i : Int)) := by
  obtain ⟨h1, h2⟩ := sortU_spec zs
  refine strict_eq _ _ (h1.filter _) ?_ fun x => ?_
  · rw [List.pairwise_map]
    have : (keptL k zs).Pairwise (· < ·) := (List.pairwise_lt_range).filter _
    exact this.imp fun h => by omega
  · rw [List.mem_filter, h2, List.mem_map]
    constructor
    · rintro ⟨hx, hd⟩
      simp only [delB, Bool.not_or, Bool.and_eq_true, Bool.not_eq_true', decide_eq_false_iff_not] at hd
      refine ⟨x.toNat, List.mem_filter.2 ⟨List.mem_range.2 (by omega), decide_eq_true ?_⟩, by omega⟩
      rw [show ((x.toNat : Nat) : Int) = x by omega]; exact hx
    · rintro ⟨i, hi, rfl⟩
      obtain ⟨g1, g2⟩ := List.mem_filter.1 hi
      have g3 := List.mem_range.1 g1
      refine ⟨of_decide_eq_true g2, ?_⟩
      simp only [delB, Bool.not_or, Bool.and_eq_true, Bool.not_eq_true', decide_eq_false_iff_not]
      omega
theorem torn_len (torn : Int) (ws : List (Nat × List UInt8)) : (tornL torn ws).length = ws.length := by simp [tornL]
theorem torn_at {torn : Int} {ws : List (Nat × List UInt8)} {i : Nat} {p : Nat × List UInt8} (h : ws[i]? = some p) : (tornL torn ws)[i]? = some (if i + 1 = ws.length ∧ 0 ≤ torn then (p.1, p.2.take torn.toNat) else p) := by
  unfold tornL; rw [List.getElem?_mapIdx, h]; rfl
theorem kept_at {pend : List (Nat × List UInt8)} {zs : List Int} {i q : Nat} (h : (keptL pend.length zs)[i]? = some q) : ∃ p, pend[q]? = some p ∧ (keptW pend zs)[i]? = some p := by
  have hq := keptL_lt (List.mem_of_getElem? h)
  refine ⟨pend[q], List.getElem?_eq_getElem hq, ?_⟩
  unfold keptW
  rw [List.getElem?_map, h, Option.map_some, List.getD_eq_getElem?_getD, List.getElem?_eq_getElem hq]; rfl
theorem keptW_in {pend : List (Nat × List UInt8)} {zs : List Int} {p : Nat × List UInt8} (h : p ∈ keptW pend zs) : p ∈ pend := by
  unfold keptW at h
  obtain ⟨i, hi, rfl⟩ := List.mem_map.1 h
  have hq := keptL_lt hi
  rw [List.getD_eq_getElem?_getD, List.getElem?_eq_getElem hq]
  exact List.getElem_mem hq
theorem torn_in {torn : Int} {ws : List (Nat × List UInt8)} {n : Nat} (h : ∀ p ∈ ws, p.1 + p.2.length ≤ n) : ∀ p ∈ tornL torn ws, p.1 + p.2.length ≤ n := by
  intro p hp
  obtain ⟨i, hi⟩ := List.mem_iff_getElem?.1 hp
  have hlt := (List.getElem?_eq_some_iff.1 hi).1
  rw [torn_len] at hlt
  rw [torn_at (List.getElem?_eq_getElem hlt)] at hi
  have h1 := h ws[i] (List.getElem_mem hlt)
  injection hi with hi
  subst hi
  split
  · simp only [List.length_take]; omega
  · exact h1
theorem vis_step {du : List UInt8} {tw : List (Nat × List UInt8)} {i a : Nat} {s : List UInt8} (h : tw[i]? = some (a, s)) : splice (vis du (tw.take i)) a s = vis du (tw.take (i + 1)) := by
  rw [List.take_add_one, h]; exact (vis_snoc du (tw.take i) (a, s)).symm
theorem extract_two {c : Array Value} {j : Nat} {x y : Value} (h1 : c[j]? = some x) (h2 : c[j + 1]? = some y) : c.extract j (j + 2) = #[x, y] := by
  obtain ⟨g1, rfl⟩ := Array.getElem?_eq_some_iff.1 h1
  obtain ⟨g2, rfl⟩ := Array.getElem?_eq_some_iff.1 h2
  apply Array.ext
  · simp; omega
  · intro i hi hj
    simp only [List.size_toArray, List.length_cons, List.length_nil] at hj
    rcases (by omega : i = 0 ∨ i = 1) with rfl | rfl <;> simp
theorem kw_yes (pend : List (Nat × List UInt8)) (zs : List Int) (i : Nat) (h : (i : Int) ∈ zs) : keptL (i + 1) zs = keptL i zs ++ [i] := by
  unfold keptL; rw [List.range_succ, List.filter_append]; simp [h]
theorem kw_no (pend : List (Nat × List UInt8)) (zs : List Int) (i : Nat) (h : ¬ (i : Int) ∈ zs) : keptL (i + 1) zs = keptL i zs := by
  unfold keptL; rw [List.range_succ, List.filter_append]; simp [h]

theorem cdel_spec (bd dp bdu bv n k c : Nat) (off : Bool) (left : Nat) (b : Option Addr) (z : Int) : DoesR Tryz.prog 82 #[.int .i64 z, .pointer (some ⟨bd, 0, none⟩)] [[(bd, .cells #[.pointer (some ⟨dp, 0, none⟩)] 26 (0, 0))], [(dp, .cells (dkc off left bdu bv n (.slice b k c)) 103 (0, 0))]] (.bool (delB k z)) := by
 refine spec_enter func82 rfl ntmps82 rfl ?_
 intro u R
 refine Zb [0, 1] ?_
 refine Zq <| Zg <| Za Y <| Z0 <| Zx <| Zq <| Zg <| Zm Y ?_
 first | refine op_v (p_lss_nat (n := 0) Y Y) ?_ | refine op_v (p_lss Y Y) ?_
 refine Zm Y ?_
 first | refine ops_split (t := 6) Y rfl (fun hz => ?_) (fun hz => ?_) | refine ops_split_bool (t := 6) Y rfl (fun hz => ?_) (fun hz => ?_)
 ·
  refine op_skip Y rfl <| op_skip Y rfl <| op_skip Y rfl <| op_skip Y rfl <| op_skip Y rfl <| op_skip Y rfl <| op_skip Y rfl <| Zv (p_pick_t Y Y) <| Za Y <| Z0 <| Zn [3] ?_
  refine Zx <| at_ret ?_
  refine nx_end1 rfl results82 Y (by exact ⟨by simp [delB, hz], rfl⟩)
 ·
  refine Zf Y Y <| op_rg Y (by repeat (first | exact Has.here _ | apply Has.there)) (p_load isAgg26 Y (by rfl)) rfl rfl ?_
  refine op_wg Y (p_nilChk Y rfl) rfl rfl ?_
  refine op_wg Y (p_fieldAddr0 (off := 4) underlying103 rfl rfl sizeOf101 Y) rfl rfl ?_
  refine op_rg Y (by repeat (first | exact Has.here _ | apply Has.there)) (p_load isAgg101 Y (by rfl)) rfl rfl ?_
  refine op_wg Y (p_len_slice underlying101 Y) rfl rfl ?_
  first | refine op_wg Y (p_geq_nat Y Y) rfl rfl ?_ | refine op_wg Y (p_geq Y Y) rfl rfl ?_
  refine Zv (p_pick_f Y Y) <| Za Y <| Z0 <| Zn [3] ?_
  refine Zx <| at_ret ?_
  refine nx_end1 rfl results82 Y (by exact ⟨by simp [delB, hz], rfl⟩)

theorem indexFunc_spec (bd dp bdu bv n k c : Nat) (off : Bool) (left : Nat) (b : Option Addr) {v : Value} {zs : List Int} {s : List Chunk} (hr : Row 3 v (zs.map iv) s) (hn : zs.length ≤ 1000000) : Does Tryz.prog 130 #[v, .func (.func 82) #[] #[.pointer (some ⟨bd, 0, none⟩)]] [s, [(bd, .cells #[.pointer (some ⟨dp, 0, none⟩)] 26 (0, 0))], [(dp, .cells (dkc off left bdu bv n (.slice b k c)) 103 (0, 0))]]
      (fun r H' => (∃ e : Int, r = .int .i64 e ∧ ((e = -1 ∧ ∀ z ∈ zs, delB k z = false) ∨ (∃ i : Nat, e = (i : Int) ∧ (∀ z ∈ zs.take i, delB k z = false) ∧ ∃ z, zs[i]? = some z ∧ delB k z = true))) ∧ H' = [s, [(bd, .cells #[.pointer (some ⟨dp, 0, none⟩)] 26 (0, 0))], [(dp, .cells (dkc off left bdu bv n (.slice b k c)) 103 (0, 0))]]) := by
 obtain ⟨gv, cv, hv⟩ := hr.form
 rw [List.length_map] at hv
 subst hv
 refine spec_enter func130 rfl ntmps130 rfl ?_
 intro u R
 refine Zb [0, 1] ?_
 refine Zq <| Zg <| Za Y <| Z0 <| Zx <| Zq <| Zq <| Zg <| Zm Y <| Zv (p_len_slice underlying76 Y) <| Zm Y <| Z0 <| Zx <| at_block <| Zb [8, 0, 1, 7] ?_
 refine at_loopB (e0 := [(8, _)]) (H0 := _) (n := _) (fun m e H => ∃ (i : Nat), m = zs.length - i ∧ (i ≤ zs.length ∧ ∀ z ∈ zs.take i, delB k z = false) ∧ e = [(8, .int .i64 (i : Int))] ∧ H = []) (by exact ⟨0, rfl, ⟨Nat.zero_le _, by simp⟩, rfl, rfl⟩) (by repeat (first | exact Pull.nil _ | (apply Pull.cons; (focus (repeat (first | exact One.here _ _ | apply One.there)))))) ?_
 rintro _ _ _ ⟨i, rfl, ⟨hi, hno⟩, rfl, rfl⟩
 refine Zq <| Zg ?_
 first | refine op_v (p_lss_nat Y Y) ?_ | refine op_v (p_lss Y Y) ?_
 refine Z0 <| Zx <| Zq ?_
 first | refine at_if Y (fun hlt => ?_) (fun hlt => ?_) | refine at_if_bool Y (fun hlt => ?_) (fun hlt => ?_)
 ·
  refine at_skip <| Zx <| Zq <| at_block <| Zq <| Zg <| Zm Y <| Za Y <| Z0 <| Zx <| Zq ?_
  obtain ⟨z, hz⟩ : ∃ z, zs[i]? = some z := ⟨_, List.getElem?_eq_getElem hlt⟩
  obtain ⟨gk, ck, curk, zk, hvk, rfl, hink⟩ := row_in hr (by rw [List.length_map]; omega)
  injection hvk with e1 e2 e3
  subst e1 e3
  have hcell := hink.get i (iv z) (by rw [List.getElem?_map, hz]; rfl)
  refine Zg <| Zm Y <| Zm Y <| Zm Y ?_
  first | (refine op_v (p_indexAddr_nat0 underlying76 sizeOf3 Y Y ?_) ?_; (focus (omega))) | (refine op_v (p_indexAddr_nat1 underlying76 sizeOf3 Y Y ?_) ?_; (focus (omega)))
  refine Zl isAgg3 Y (hv := by first | exact hcell | (rw [Nat.mul_one]; exact hcell) | simpa using hcell) ?_
  refine Zr [_] Y call82 Y rfl (cdel_spec bd dp bdu bv n k c off left b z) ?_
  rintro _ _ ⟨rfl, rfl⟩
  refine Z0 <| Zx ?_
  refine at_if_bool Y (fun hdz => ?_) (fun hdz => ?_)
  ·
   refine Zq <| Zg <| Zm Y <| Za Y <| Z0 <| Zx <| at_ret <| nx_block_ret <| Zt <| Zt <| nx_block_ret <| Zt ?_
   refine nx_end1 rfl results130 Y (by exact ⟨⟨_, rfl, .inr ⟨i, rfl, hno, z, hz, hdz⟩⟩, rfl⟩)
  ·
   refine at_skip <| nx_block_normal <| Zx <| Zg ?_
   first | (refine op_v (p_add_nat (n := 1) Y Y ?_) ?_; (focus (omega))) | (refine op_v (p_add Y Y (IntWalk.i64_in _ ?_)) ?_; (focus (omega)))
   refine Zm Y <| Z0 <| Zn [8, 0, 1, 7] ?_
   refine nx_againB (e' := [(8, _)]) (m := _) (H' := _) (by
         exact ⟨i + 1, rfl, ⟨by omega, by
           rw [List.take_add_one, hz]; intro x hx; rcases List.mem_append.1 hx with h | h
           · exact hno x h
           · simp only [Option.toList_some, List.mem_singleton] at h; rw [h]; exact hdz⟩, rfl, rfl⟩)
 ·
  rw [List.take_of_length_le (show zs.length ≤ i by omega)] at hno
  refine at_exit <| Zt <| Zt <| nx_block_exit <| Zx <| Zq <| Zg <| Za Y <| Z0 <| Zx <| at_ret ?_
  refine nx_end1 rfl results130 Y (by exact ⟨⟨_, rfl, .inl ⟨rfl, hno⟩⟩, rfl⟩)

theorem deleteFunc_spec (bd dp bdu bv n k c : Nat) (off : Bool) (left : Nat) (b : Option Addr) {v : Value} {zs : List Int} {s : List Chunk} (hr : Row 3 v (zs.map iv) s) (hn : zs.length ≤ 1000000) : Does Tryz.prog 81 #[v, .func (.func 82) #[] #[.pointer (some ⟨bd, 0, none⟩)]] [s, [(bd, .cells #[.pointer (some ⟨dp, 0, none⟩)] 26 (0, 0))], [(dp, .cells (dkc off left bdu bv n (.slice b k c)) 103 (0, 0))]]
      (fun r H' => ∃ s', Row 3 r ((zs.filter fun z => !delB k z).map iv) s' ∧ H' = [s', [(bd, .cells #[.pointer (some ⟨dp, 0, none⟩)] 26 (0, 0))], [(dp, .cells (dkc off left bdu bv n (.slice b k c)) 103 (0, 0))]]) := by
 obtain ⟨gv, cv, hv⟩ := hr.form
 rw [List.length_map] at hv
 subst hv
 refine spec_enter func81 rfl ntmps81 rfl ?_
 intro u R
 refine Zb [0, 1] ?_
 refine Zq <| Zg <| Za Y <| Z0 <| Zx <| Zq <| Zg <| Zm Y <| Zm Y <| Zc [_, _] Y call130 Y rfl (indexFunc_spec bd dp bdu bv n k c off left b hr hn) ?_
 rintro _ _ ⟨_, ⟨⟨e, rfl, hx⟩, rfl⟩, rfl⟩
 refine Za Y <| Z0 <| Zx <| Zq <| Zq <| Zg <| Zm Y ?_
 first | refine op_v (p_eql_nat Y Y) ?_ | refine op_v (p_eql Y Y) ?_
 refine Z0 <| Zx ?_
 first | refine at_if Y (fun he => ?_) (fun he => ?_) | refine at_if_bool Y (fun he => ?_) (fun he => ?_)
 ·
  have hall := (hx.resolve_right (fun ⟨i, h1, _⟩ => by omega)).2
  refine Zq <| Zg <| Zm Y <| Za Y <| Z0 <| Zx <| at_ret <| Zt ?_
  refine nx_end1 rfl results81 Y (by exact ⟨s, by rw [List.filter_eq_self.2 (fun z hz => by rw [hall z hz]; rfl)]; exact hr, rfl⟩)
 ·
  obtain ⟨i0, rfl, hno, z0, hz0, hd0⟩ := hx.resolve_left (fun h => he h.1)
  have hi0 := (List.getElem?_eq_some_iff.1 hz0).1
  refine at_skip <| Zx <| Zq <| Zq <| Zg <| Zm Y ?_
  first | (refine op_v (p_add_nat (n := 1) Y Y ?_) ?_; (focus (omega))) | (refine op_v (p_add Y Y (IntWalk.i64_in _ ?_)) ?_; (focus (omega)))
  refine Za Y <| Z0 <| Zx <| at_block <| Zb [5, 6, 0, 1] ?_
  refine at_loopB (e0 := [(5, _), (6, _)]) (H0 := _) (n := _) (fun m e H => ∃ (i j : Nat) (xs : List Int) (s : List Chunk), m = zs.length - j ∧ (i < j ∧ j ≤ zs.length ∧ xs.length = zs.length ∧ xs.take i = (zs.take j).filter (fun z => !delB k z) ∧ xs.drop j = zs.drop j ∧ Row 3 (.slice gv zs.length cv) (xs.map iv) s) ∧ e = [(5, .int .i64 (i : Int)), (6, .int .i64 (j : Int))] ∧ H = [s]) (by
        exact ⟨i0, i0 + 1, zs, s, rfl, ⟨by omega, by omega, rfl, by
          rw [List.take_add_one, hz0, List.filter_append, List.filter_eq_self.2 (fun z hz => by rw [hno z hz]; rfl)]; simp [hd0], rfl, hr⟩, rfl, rfl⟩) (by repeat (first | exact Pull.nil _ | (apply Pull.cons; (focus (repeat (first | exact One.here _ _ | apply One.there)))))) ?_
  rintro _ _ _ ⟨i, j, xs, s, rfl, ⟨hij, hj, hxl, hpre, hsuf, hr⟩, rfl, rfl⟩
  refine Zq <| Zq <| Zg <| Zm Y <| Zm Y <| Zv (p_len_slice underlying76 Y) ?_
  first | refine op_v (p_lss_nat Y Y) ?_ | refine op_v (p_lss Y Y) ?_
  refine Z0 <| Zx ?_
  first | refine at_if Y (fun hlt => ?_) (fun hlt => ?_) | refine at_if_bool Y (fun hlt => ?_) (fun hlt => ?_)
  ·
   refine at_skip <| Zx <| Zq <| at_block <| Zq ?_
   obtain ⟨z, hz⟩ : ∃ z, zs[j]? = some z := ⟨_, List.getElem?_eq_getElem hlt⟩
   have hxz : xs[j]? = some z := by
     have h9 := congrArg (fun l : List Int => l[0]?) hsuf
     simpa [List.getElem?_drop, hz] using h9
   obtain ⟨g7, cap7, cur7, z7, hv7, rfl, hk7, hfr7, hset⟩ := row_set (k := i) hr (by rw [List.length_map]; omega)
   rw [List.length_map, hxl] at hv7
   injection hv7 with e1 e2 e3
   subst e1 e3
   obtain ⟨g8, c8, cur8, z8, hv8, hs8, hin8⟩ := row_in hr (by rw [List.length_map]; omega)
   rw [List.length_map, hxl] at hv8
   injection hv8 with e1 e2 e3
   injection e1 with e1
   injection e1 with e1
   subst e1
   injection hs8 with hs8
   injection hs8 with _ hs8
   injection hs8 with e4 _ e6
   subst e4 e6
   have hcell := hin8.get j (iv z) (by rw [List.getElem?_map, hxz]; rfl)
   refine Zg <| Zm Y <| Zm Y ?_
   first | (refine op_v (p_indexAddr_nat0 underlying76 sizeOf3 Y Y ?_) ?_; (focus (omega))) | (refine op_v (p_indexAddr_nat1 underlying76 sizeOf3 Y Y ?_) ?_; (focus (omega)))
   refine Zl isAgg3 Y (hv := by first | exact hcell | (rw [Nat.mul_one]; exact hcell) | simpa using hcell) ?_
   refine Za Y <| Z0 <| Zx <| Zq <| Zg <| Zm Y <| Zm Y <| Zr [_] Y call82 Y rfl (cdel_spec bd dp bdu bv n k c off left b z) ?_
   rintro _ _ ⟨rfl, rfl⟩
   first | refine op_v (p_not_dec Y) ?_ | refine op_v (p_not Y) ?_
   refine Z0 <| Zn [0, 1, 5, 6, 7, 29] ?_
   refine Zx ?_
   first | refine at_if Y (fun hdz => ?_) (fun hdz => ?_) | refine at_if_bool Y (fun hdz => ?_) (fun hdz => ?_)
   ·
    refine Zq <| Zg <| Zm Y <| Zm Y <| Zm Y ?_
    first | (refine op_v (p_indexAddr_nat0 underlying76 sizeOf3 Y Y ?_) ?_; (focus (first | omega | exact hk7))) | (refine op_v (p_indexAddr_nat1 underlying76 sizeOf3 Y Y ?_) ?_; (focus (first | omega | exact hk7)))
    refine Ze (Zs sizeOf3 Y Y rfl (hi := by first | omega | exact hk7) (hz := by exact hfr7)) ?_
    rintro _ _ ⟨rfl, rfl⟩
    refine Z0 <| Zx <| Zg <| Zm Y ?_
    first | (refine op_v (p_add_nat (n := 1) Y Y ?_) ?_; (focus (omega))) | (refine op_v (p_add Y Y (IntWalk.i64_in _ ?_)) ?_; (focus (omega)))
    refine Za Y <| Z0 <| nx_block_normal <| Zx <| Zg <| Zm Y ?_
    first | (refine op_v (p_add_nat (n := 1) Y Y ?_) ?_; (focus (omega))) | (refine op_v (p_add Y Y (IntWalk.i64_in _ ?_)) ?_; (focus (omega)))
    refine Za Y <| Z0 <| Zn [5, 6, 0, 1] ?_
    refine nx_againB (e' := [(5, _), (6, _)]) (m := _) (H' := _) (by
          first | exact ⟨i + 1, j + 1, xs.set i z, _, rfl, ⟨by omega, by omega, by rw [List.length_set]; exact hxl, by
            rw [List.take_add_one, List.getElem?_set_self (by omega), List.take_set_of_le (Nat.le_refl i), hpre, List.take_add_one (l := zs), hz, List.filter_append]; simp [hdz], by
            rw [List.drop_set_of_lt (by omega)]; rw [← List.drop_drop (i := 1) (j := j), hsuf, List.drop_drop], by rw [List.map_set]; exact hset _⟩, rfl, rfl⟩ | exact ⟨i, j + 1, xs, _, rfl, ⟨by omega, by omega, hxl, by
            rw [hpre, List.take_add_one (l := zs), hz, List.filter_append]; simp [hdz], by
            rw [← List.drop_drop (i := 1) (j := j), hsuf, List.drop_drop], hr⟩, rfl, rfl⟩)
   ·
    refine at_skip <| nx_block_normal <| Zx <| Zg <| Zm Y ?_
    first | (refine op_v (p_add_nat (n := 1) Y Y ?_) ?_; (focus (omega))) | (refine op_v (p_add Y Y (IntWalk.i64_in _ ?_)) ?_; (focus (omega)))
    refine Za Y <| Z0 <| Zn [5, 6, 0, 1] ?_
    refine nx_againB (e' := [(5, _), (6, _)]) (m := _) (H' := _) (by
          first | exact ⟨i + 1, j + 1, xs.set i z, _, rfl, ⟨by omega, by omega, by rw [List.length_set]; exact hxl, by
            rw [List.take_add_one, List.getElem?_set_self (by omega), List.take_set_of_le (Nat.le_refl i), hpre, List.take_add_one (l := zs), hz, List.filter_append]; simp [hdz], by
            rw [List.drop_set_of_lt (by omega)]; rw [← List.drop_drop (i := 1) (j := j), hsuf, List.drop_drop], by rw [List.map_set]; exact hset _⟩, rfl, rfl⟩ | exact ⟨i, j + 1, xs, _, rfl, ⟨by omega, by omega, hxl, by
            rw [hpre, List.take_add_one (l := zs), hz, List.filter_append]; simp [hdz], by
            rw [← List.drop_drop (i := 1) (j := j), hsuf, List.drop_drop], hr⟩, rfl, rfl⟩)
  ·
   have ej : j = zs.length := by omega
   subst ej
   rw [List.take_length] at hpre
   obtain ⟨g9, c9, cur9, z9, hv9, rfl, hle9, hcm9, hcs9, htk9, hfr9⟩ := hr.some (by rw [List.length_map]; omega)
   rw [List.length_map, hxl] at hv9 hle9 htk9
   injection hv9 with e1 e2 e3
   subst e1 e3
   refine at_exit <| Zt <| Zt <| nx_block_exit <| Zx <| Zq <| Zg <| Zm Y <| Zm Y ?_
   (refine op_v (p_slice_slice_from underlying76 sizeOf3 Y Y ?_) ?_; (focus (omega)))
   refine Ze (w_clear_sub underlying76 (rfl : Tryz.prog.info? 3 = some Tryz.t3) rfl rfl rfl Y (by omega) hcs9 hfr9 (by repeat (first | exact One.here _ _ | apply One.there))) ?_
   rintro _ _ rfl
   refine Z0 <| Zx <| Zq <| Zg <| Zm Y <| Zm Y ?_
   (refine op_v (p_slice_slice_to underlying76 sizeOf3 Y Y ?_) ?_; (focus (omega)))
   refine Za Y <| Z0 <| Zx <| at_ret ?_
   refine nx_end1 rfl results81 Y (by
         refine ⟨_, .inr ⟨g9, cv, over cur9 i (List.replicate (zs.length - i) (Value.int .i64 0)), z9, ?_, rfl, ?_, hcm9, ?_, ?_, ?_⟩, rfl⟩
         · rw [List.length_map, ← hpre, List.length_take, hxl]; congr 1; omega
         · rw [List.length_map, ← hpre, List.length_take]; omega
         · unfold over; simp [hcs9]; omega
         · rw [List.length_map, ← hpre, List.map_take, List.length_take, hxl, Nat.min_eq_left (by omega), ← htk9, List.take_take, Nat.min_eq_left (by omega)]
           unfold over
           rw [List.append_assoc]
           exact List.take_left' (by rw [List.length_take, Array.length_toList]; omega)
         · have : (over cur9 i (List.replicate (zs.length - i) (iv 0))).size = cur9.size := by unfold over; simp [hcs9]; omega
           rw [show (Value.int IntKind.i64 0) = iv 0 from rfl, this]; exact hfr9)

theorem pend_row {pend : List (Nat × List UInt8)} {pv : Value} {sp : List Chunk} {e : TypeId} (hr : RowS 2 e pv pend.length (pendC pend) sp) {q : Nat} {p : Nat × List UInt8} (hq : pend[q]? = some p) :
    ∃ g cap cur z, pv = .slice (some ⟨g, 0, none⟩) pend.length cap ∧ sp = [(g, .cells cur e z)] ∧ pend.length ≤ cap ∧ cur[q * 2]? = some (.int .i64 (p.1 : Int)) ∧ cur[q * 2 + 1]? = some (.string (str p.2)) := by
  obtain ⟨g, cap, cur, z, h1, h2, h3, h4⟩ := rowS_at hr (by have := (List.getElem?_eq_some_iff.1 hq).1; omega)
  obtain ⟨h5, h6⟩ := pend_off hq
  exact ⟨g, cap, cur, z, h1, h2, h3, h4 _ _ h5, h4 _ _ h6⟩
theorem pendC_snoc (l : List (Nat × List UInt8)) (p : Nat × List UInt8) : pendC (l ++ [p]) = pendC l ++ [.int .i64 (p.1 : Int), .string (str p.2)] := by simp [pendC]
theorem kwm_yes {pend : List (Nat × List UInt8)} {zs : List Int} {i : Nat} {p : Nat × List UInt8} (h : (i : Int) ∈ zs) (hp : pend[i]? = some p) : (keptL (i + 1) zs).map (fun i => pend.getD i (0, [])) = (keptL i zs).map (fun i => pend.getD i (0, [])) ++ [p] := by
  rw [kw_yes pend zs i h, List.map_append, List.map_singleton, List.getD_eq_getElem?_getD, hp]; rfl

theorem crash_main (dp bd bv n left : Nat) (off : Bool) (pv v : Value) (pend : List (Nat × List UInt8)) (du vi : List UInt8) (sp M : List Chunk) (zs : List Int) (torn : Int) (hd : du.length = n) (hvl : vi.length = n) (hn : n ≤ 4194304) (hr : RowS 2 139 pv pend.length (pendC pend) sp) (hin : ∀ p ∈ pend, p.1 + p.2.length ≤ n ∧ p.1 < n) (hpl : pend.length ≤ 1000000) (hv : IntsIn M v zs) (hzl : zs.length ≤ 1000000) (ht1 : -9223372036854775808 ≤ torn) (ht2 : torn ≤ 9223372036854775807) :
    Does Tryz.prog 35 #[.pointer (some ⟨dp, 0, none⟩), v, .int .i64 torn] [[(dp, .cells (dkc off left bd bv n pv) 103 (0, 0))], [(bd, .cells (byc du) 5 (0, 0))], [(bv, .cells (byc vi) 5 (0, 0))], sp, M]
      (fun r H' => ∃ b c sp', r = .int .i64 0 ∧ RowS 2 139 (.slice b 0 c) 0 [] sp' ∧ H' = [[(dp, .cells (dkc false 0 bd bv n (.slice b 0 c)) 103 (0, 0))], [(bd, .cells (byc (vis du (tornL torn (keptW pend zs)))) 5 (0, 0))], [(bv, .cells (byc (vis du (tornL torn (keptW pend zs)))) 5 (0, 0))], sp', M]) := by
 have hml : maxLen = 9223372036854775807 := rfl
 obtain ⟨bp, cp, rfl⟩ := hr.form
 obtain ⟨pz, cz, rfl, hzm, hzg⟩ := id hv
 have hti := torn_in (torn := torn) (fun p (hp : p ∈ keptW pend zs) => (hin p (keptW_in hp)).1)
 rw [← hd] at hti
 have hvis : ∀ k, (vis du ((tornL torn (keptW pend zs)).take k)).length = n := fun k => by
   rw [vis_len _ _ (fun p hp => hti p (List.mem_of_mem_take hp)), hd]
 have hwn : (keptW pend zs).length = (keptL pend.length zs).length := by unfold keptW; rw [List.length_map]
 have hsl := sortU_len zs
 have hkl : (keptL pend.length zs).length ≤ pend.length := by unfold keptL; exact Nat.le_trans (List.length_filter_le ..) (by simp)
 refine spec_enter func35 rfl ntmps35 rfl ?_
 intro u R
 refine Zb [0, 1, 2] ?_
 refine Zq <| Zg <| Ze (w_box Y (cs := #[_]) rfl) ?_
 rintro _ _ ⟨bx, rfl, rfl⟩
 refine Za Y <| Z0 <| Zx <| Zq <| Zq <| Zg <| Zl isAgg26 Y ?_
 first | refine op_v (p_eql_nil_nil underlying26 Y Y) ?_ | refine op_v (p_eql_ptr_nil underlying26 Y Y) ?_
 refine Z0 <| Zx ?_
 refine at_if_bool Y (fun hc1 => ?_) (fun hc1 => ?_)
 ·
  cases hc1
 ·
  refine at_skip <| Zx <| Zq <| Zg <| Zm Y <| Zc [_] Y call80 Y rfl (values_spec _ _ _) ?_
  rintro _ _ ⟨_, ⟨b0, rfl, rfl⟩, rfl⟩
  refine Zc [_] Y call79 Y rfl (sorted_spec hv b0 hzl) ?_
  rintro _ _ ⟨_, ⟨so1, hr1, rfl⟩, rfl⟩
  refine Zc [_] Y call78 Y rfl (compact_spec hr1 (by rw [(List.mergeSort_perm zs _).length_eq]; exact hzl)) ?_
  rintro _ _ ⟨_, ⟨so2, hr2, rfl⟩, rfl⟩
  have hr2 : Row 3 _ ((sortU zs).map iv) so2 := hr2
  obtain ⟨b2, c2, hv2⟩ := hr2.form
  rw [hv2] at hr2 ⊢
  refine Za Y <| Z0 <| Zx <| Zq <| Zg <| Zm Y <| Zv (p_makeFunc (vs := []) (us := [_]) Y Y) ?_
  refine Zc [_, _] Y call81 Y rfl (deleteFunc_spec bx dp bd bv n pend.length cp off left bp hr2 (by omega)) ?_
  rintro _ _ ⟨_, ⟨so, hro, rfl⟩, rfl⟩
  rw [kept_eq] at hro
  obtain ⟨bo, co, hvo⟩ := hro.form
  rw [List.length_map, List.length_map] at hvo
  subst hvo
  refine Za Y <| Z0 <| Zn [2, 3, 7] ?_
  refine Zx <| Zq <| Zq <| Zg <| Zm Y <| Zv (p_len_slice underlying76 Y) <| Zm Y <| Z0 <| Zx <| at_block <| Zb [22, 2, 3, 7, 20, 21] ?_
  refine at_loopB (e0 := [(22, _)]) (H0 := _) (n := _) (fun m e H => ∃ (i : Nat), m = (keptL pend.length zs).length - i ∧ (i ≤ (keptL pend.length zs).length) ∧ e = [(22, .int .i64 (i : Int))] ∧ H = [[(bd, .cells (byc (vis du ((tornL torn (keptW pend zs)).take i))) 5 (0, 0))]]) (by exact ⟨0, rfl, Nat.zero_le _, rfl, rfl⟩) (by repeat (first | exact Pull.nil _ | (apply Pull.cons; (focus (repeat (first | exact One.here _ _ | apply One.there)))))) ?_
  rintro _ _ _ ⟨i, rfl, hi, rfl, rfl⟩
  refine Zq <| Zg ?_
  first | refine op_v (p_lss_nat Y Y) ?_ | refine op_v (p_lss Y Y) ?_
  refine Z0 <| Zx <| Zq ?_
  first | refine at_if Y (fun hlt => ?_) (fun hlt => ?_) | refine at_if_bool Y (fun hlt => ?_) (fun hlt => ?_)
  ·
   refine at_skip <| Zx <| Zq <| at_block <| Zq ?_
   obtain ⟨q, hq⟩ : ∃ q, (keptL pend.length zs)[i]? = some q := ⟨_, List.getElem?_eq_getElem hlt⟩
   obtain ⟨p, hp, hwi⟩ := kept_at hq
   have hql := keptL_lt (List.mem_of_getElem? hq)
   have hpin := hin p (List.mem_of_getElem? hp)
   have hps := str_size p.2
   obtain ⟨gk, ck, curk, zk, hvk, rfl, hink⟩ := row_in hro (by rw [List.length_map, List.length_map]; omega)
   injection hvk with e1 e2 e3
   subst e1 e3
   have hcell := hink.get i (iv (q : Int)) (by rw [List.getElem?_map, List.getElem?_map, hq]; rfl)
   obtain ⟨g1, cap1, cur1, z1, hv1, rfl, hle1, hg1, hg2⟩ := pend_row hr hp
   injection hv1 with e4 e5 e6
   subst e4 e6
   have hsz1 := (Array.getElem?_eq_some_iff.1 hg2).1
   have hex := extract_two hg1 hg2
   refine Zg <| Zm Y ?_
   first | (refine op_v (p_indexAddr_nat0 underlying76 sizeOf3 Y Y ?_) ?_; (focus (omega))) | (refine op_v (p_indexAddr_nat1 underlying76 sizeOf3 Y Y ?_) ?_; (focus (omega)))
   refine Zl isAgg3 Y (hv := by first | exact hcell | (rw [Nat.mul_one]; exact hcell) | simpa using hcell) ?_
   refine Za Y <| Za Y <| Z0 <| Zx <| Zq <| Zg <| Zl isAgg26 Y ?_
   refine Zp Y rfl <| Zh 4 underlying103 rfl rfl sizeOf101 Y <| Zl isAgg101 Y ?_
   refine Zm Y ?_
   (refine op_v (p_indexAddr_nat underlying101 sizeOf139 Y Y ?_) ?_; (focus (first | omega | (simp; done))))
   refine Zo (by repeat (first | exact Has.here _ | apply Has.there)) (p_load_agg (cs := #[.int .i64 (p.1 : Int), .string (str p.2)]) isAgg139 sizeOf139 Y (by first | omega | (simp; done)) (by first | exact hex | (rw [Nat.zero_add]; exact hex))) ?_
   refine Ze (w_alloc zeroValue139 (cs := #[_, _]) rfl) ?_
   rintro _ _ ⟨wb, rfl, rfl⟩
   refine Ze (w_store_agg sizeOf139 Y Y (by first | (simp [Value.oneCell']; done) | (simp [Value.oneCell', Value.cells]; done)) (by repeat (first | exact Upd.here _ | apply Upd.there)) (by exact (rfl : _ = (#[.int .i64 (p.1 : Int), .string (str p.2)] : Array Value))) (by first | rfl | (simp; done)) (by first | omega | (simp; done)) (by exact free_zero _)) ?_
   rintro _ _ ⟨rfl, rfl⟩
   refine Z0 <| Zn [2, 3, 7, 8, 10, 20, 21, 22] ?_
   refine Zx <| Zq <| Zq <| Zg <| Zm Y <| Zm Y <| Zv (p_len_slice underlying76 Y) ?_
   first | (refine op_v (p_sub_nat (n := 1) Y Y ?_ ?_) ?_; (focus (omega)); (focus (omega))) | (refine op_v (p_sub Y Y (IntWalk.i64_in _ ?_)) ?_; (focus (omega)))
   first | refine op_v (p_eql_nat Y Y) ?_ | refine op_v (p_eql Y Y) ?_
   refine Zm Y ?_
   first | refine ops_split (t := 39) Y rfl (fun hlast => ?_) (fun hlast => ?_) | refine ops_split_bool (t := 39) Y rfl (fun hlast => ?_) (fun hlast => ?_)
   ·
    refine Zf Y Y ?_
    first | refine op_wg Y (p_geq_nat (n := 0) Y Y) rfl rfl ?_ | refine op_wg Y (p_geq Y Y) rfl rfl ?_
    refine Zv (p_pick_t Y Y) <| Z0 <| Zx ?_
    first | refine at_if Y (fun htn => ?_) (fun htn => ?_) | refine at_if_bool Y (fun htn => ?_) (fun htn => ?_)
    ·
     obtain ⟨tn, ht0⟩ := Int.eq_ofNat_of_zero_le htn
     refine Zg <| Zh 1 underlying139 rfl rfl sizeOf9 Y <| Zl isAgg9 Y ?_
     refine Zm Y <| Zh 1 underlying139 rfl rfl sizeOf9 Y <| Zl isAgg9 Y ?_
     refine Zv (p_len_str underlying9 Y) <| op_w (p_min_nat (m := tn) (fun _ => congrArg (Value.int .i64) ht0) Y) rfl rfl ?_
     refine op_w (p_slice_take underlying9 Y Y (by omega)) rfl rfl ?_
     rw [show p.2.take (min tn (str p.2).size) = p.2.take tn from by rw [hps]; rcases Nat.le_total tn p.2.length with h9 | h9; (rw [Nat.min_eq_left h9]); (rw [Nat.min_eq_right h9, List.take_of_length_le (Nat.le_refl _), List.take_of_length_le h9])]
     refine Zh 1 underlying139 rfl rfl sizeOf9 Y <| Ze (Zs sizeOf9 Y Y rfl) ?_
     rintro _ _ ⟨rfl, rfl⟩
     refine Z0 <| Zn [2, 3, 7, 10, 20, 21, 22] ?_
     refine Zx <| at_draw (n := 6) (0 :: 0 :: 2 :: 6 :: 14 :: 31 :: []) 32 (by kernel_rfl) (by kernel_rfl) rfl ?_
     refine lin_r (D' := 1) 0 rfl rfl rfl (by repeat (first | exact Has.here _ | apply Has.there)) (p_load_agg (cs := #[_, _]) isAgg139 sizeOf139 Y (by first | decide | omega | (simp; done)) (by rfl)) ?_
     refine Zj 3 1 rfl isAgg26 Y ?_
     refine Zi 7 2 rfl (p_nilChk Y rfl) <| Zi 15 3 rfl (p_fieldAddr0 (off := 2) underlying103 rfl rfl sizeOf36 Y) <| Zj 31 4 rfl isAgg36 Y ?_
     refine Zz (l := [5]) ?_
     have htw : (tornL torn (keptW pend zs))[i]? = some (p.1, p.2.take tn) := by
       rw [torn_at (torn := torn) hwi, if_pos ⟨by omega, by omega⟩, ht0]; rfl
     refine Zy 31 63 [4, 1, 0] [false, false, false] [] rfl Y rfl rfl rfl rfl (Zw [_, _] Y call66 Y rfl (onto_spec p.1 n bd (p.2.take tn) _ _ (by rw [List.length_take]; omega) hpin.2 hn (hvis i))) ?hk_2 no_pan ?hl_2
     case hk_2 =>
      rintro _ _ ⟨_, ⟨rfl, rfl⟩, rfl⟩
      refine ⟨keep_nil, ?_⟩
      rw [vis_step htw]
      refine lin_nil ?_
      refine nx_block_normal <| Zx <| Zg ?_
      first | (refine op_v (p_add_nat (n := 1) Y Y ?_) ?_; (focus (omega))) | (refine op_v (p_add Y Y (IntWalk.i64_in _ ?_)) ?_; (focus (omega)))
      refine Zm Y <| Z0 <| Zn [22, 2, 3, 7, 20, 21] ?_
      refine nx_againB (e' := [(22, _)]) (m := _) (H' := _) (by exact ⟨i + 1, rfl, by omega, rfl, rfl⟩)
     case hl_2 =>
      exact each_nil
    ·
     refine at_skip <| Zx <| at_draw (n := 6) (0 :: 0 :: 2 :: 6 :: 14 :: 31 :: []) 32 (by kernel_rfl) (by kernel_rfl) rfl ?_
     refine lin_r (D' := 1) 0 rfl rfl rfl (by repeat (first | exact Has.here _ | apply Has.there)) (p_load_agg (cs := #[_, _]) isAgg139 sizeOf139 Y (by first | decide | omega | (simp; done)) (by rfl)) ?_
     refine Zj 3 1 rfl isAgg26 Y ?_
     refine Zi 7 2 rfl (p_nilChk Y rfl) <| Zi 15 3 rfl (p_fieldAddr0 (off := 2) underlying103 rfl rfl sizeOf36 Y) <| Zj 31 4 rfl isAgg36 Y ?_
     refine Zz (l := [5]) ?_
     have htw : (tornL torn (keptW pend zs))[i]? = some (p.1, p.2) := by
       rw [torn_at (torn := torn) hwi, if_neg (by omega)]
     refine Zy 31 63 [4, 1, 0] [false, false, false] [] rfl Y rfl rfl rfl rfl (Zw [_, _] Y call66 Y rfl (onto_spec p.1 n bd p.2 _ _ hpin.1 hpin.2 hn (hvis i))) ?hk_4 no_pan ?hl_4
     case hk_4 =>
      rintro _ _ ⟨_, ⟨rfl, rfl⟩, rfl⟩
      refine ⟨keep_nil, ?_⟩
      rw [vis_step htw]
      refine lin_nil ?_
      refine Zn [2, 3, 7, 20, 21, 22] ?_
      refine nx_block_normal <| Zx <| Zg ?_
      first | (refine op_v (p_add_nat (n := 1) Y Y ?_) ?_; (focus (omega))) | (refine op_v (p_add Y Y (IntWalk.i64_in _ ?_)) ?_; (focus (omega)))
      refine Zm Y <| Z0 <| Zn [22, 2, 3, 7, 20, 21] ?_
      refine nx_againB (e' := [(22, _)]) (m := _) (H' := _) (by exact ⟨i + 1, rfl, by omega, rfl, rfl⟩)
     case hl_4 =>
      exact each_nil
   ·
    refine op_skip Y rfl <| op_skip Y rfl <| Zv (p_pick_f Y Y) <| Z0 <| Zx <| at_else Y <| at_skip <| Zx <| at_draw (n := 6) (0 :: 0 :: 2 :: 6 :: 14 :: 31 :: []) 32 (by kernel_rfl) (by kernel_rfl) rfl ?_
    refine lin_r (D' := 1) 0 rfl rfl rfl (by repeat (first | exact Has.here _ | apply Has.there)) (p_load_agg (cs := #[_, _]) isAgg139 sizeOf139 Y (by first | decide | omega | (simp; done)) (by rfl)) ?_
    refine Zj 3 1 rfl isAgg26 Y ?_
    refine Zi 7 2 rfl (p_nilChk Y rfl) <| Zi 15 3 rfl (p_fieldAddr0 (off := 2) underlying103 rfl rfl sizeOf36 Y) <| Zj 31 4 rfl isAgg36 Y ?_
    refine Zz (l := [5]) ?_
    have htw : (tornL torn (keptW pend zs))[i]? = some (p.1, p.2) := by
      rw [torn_at (torn := torn) hwi, if_neg (by omega)]
    refine Zy 31 63 [4, 1, 0] [false, false, false] [] rfl Y rfl rfl rfl rfl (Zw [_, _] Y call66 Y rfl (onto_spec p.1 n bd p.2 _ _ hpin.1 hpin.2 hn (hvis i))) ?hk_6 no_pan ?hl_6
    case hk_6 =>
     rintro _ _ ⟨_, ⟨rfl, rfl⟩, rfl⟩
     refine ⟨keep_nil, ?_⟩
     rw [vis_step htw]
     refine lin_nil ?_
     refine Zn [2, 3, 7, 20, 21, 22] ?_
     refine nx_block_normal <| Zx <| Zg ?_
     first | (refine op_v (p_add_nat (n := 1) Y Y ?_) ?_; (focus (omega))) | (refine op_v (p_add Y Y (IntWalk.i64_in _ ?_)) ?_; (focus (omega)))
     refine Zm Y <| Z0 <| Zn [22, 2, 3, 7, 20, 21] ?_
     refine nx_againB (e' := [(22, _)]) (m := _) (H' := _) (by exact ⟨i + 1, rfl, by omega, rfl, rfl⟩)
    case hl_6 =>
     exact each_nil
  ·
   rw [List.take_of_length_le (show (tornL torn (keptW pend zs)).length ≤ i by rw [torn_len, hwn]; omega)]
   have hvf := hvis i
   rw [List.take_of_length_le (show (tornL torn (keptW pend zs)).length ≤ i by rw [torn_len, hwn]; omega)] at hvf
   refine at_exit <| Zt <| Zt <| nx_block_exit <| Zx <| Zq <| at_draw (n := 10) (0 :: 0 :: 2 :: 6 :: 14 :: 0 :: 32 :: 96 :: 224 :: 511 :: []) 512 (by kernel_rfl) (by kernel_rfl) rfl ?_
   refine Zj 1 0 rfl isAgg26 Y ?_
   refine Zj 3 1 rfl isAgg26 Y ?_
   refine Zi 7 2 rfl (p_nilChk Y rfl) <| Zi 15 3 rfl (p_fieldAddr0 (off := 2) underlying103 rfl rfl sizeOf36 Y) <| Zj 31 4 rfl isAgg36 Y ?_
   refine Zj 63 5 rfl isAgg26 Y ?_
   refine Zi 127 6 rfl (p_nilChk Y rfl) <| Zi 255 7 rfl (p_fieldAddr0 (off := 3) underlying103 rfl rfl sizeOf36 Y) <| Zj 511 8 rfl isAgg36 Y ?_
   refine Zz (l := [9]) ?_
   refine Zy 511 1023 [8, 5, 4, 1, 0] [false, false, false, false, false] [] rfl Y rfl rfl rfl rfl (Zw [_, _, _] Y call83 Y rfl (settle_spec off dp left bd bv n bd bv pend.length _ (pendC pend) sp _ vi _ _ _ hvf hvl hn hr)) ?hk_8 no_pan ?hl_8
   case hk_8 =>
    rintro _ _ ⟨_, ⟨rfl, b9, c9, sp9, hr9, rfl⟩, rfl⟩
    refine ⟨keep_nil, ?_⟩
    refine lin_nil ?_
    refine Zx <| Zq <| Zg <| Zl isAgg26 Y ?_
    refine Zv (p_build (vs := []) (cs := #[_, _]) Y (run_build_struct (pl := #[(0, 1), (1, 1)]) zeroValue100 underlying100 (fun _ => by kernel_rfl) rfl)) ?_
    refine Zp Y rfl <| Zh 0 underlying103 rfl rfl sizeOf100 Y <| Ze (w_store_agg sizeOf100 Y Y (by simp [Value.oneCell', Value.cells]) (by repeat (first | exact Upd.here _ | apply Upd.there)) (by rfl) (by first | rfl | (simp; done)) (by first | decide | exact Nat.le_refl _ | (simp; done) | (simp; omega)) (by exact free_zero _)) ?_
    rintro _ _ ⟨rfl, rfl⟩
    refine Z0 <| Zn [] ?_
    refine Zx <| Zq <| Zg <| Za Y <| Z0 <| Zx <| at_ret ?_
    refine nx_end1 rfl results35 Y (by exact ⟨b9, c9, sp9, rfl, hr9, rfl⟩)
   case hl_8 =>
    exact each_nil

theorem rcrash_main (rp left : Nat) (off : Bool) (v pv kv : Value) (pend : List (Nat × List UInt8)) (du : List UInt8) (sv sp M : List Chunk) (zs : List Int) (torn : Int) (hr : Row 5 v (du.map u8v) sv) (hp : RowS 2 142 pv pend.length (pendC pend) sp) (hin : ∀ p ∈ pend, p.1 + p.2.length ≤ du.length) (hd : du.length ≤ 4194304) (hpl : pend.length ≤ 1000000) (hv : IntsIn M kv zs) (ht1 : -9223372036854775808 ≤ torn) (ht2 : torn ≤ 9223372036854775807) :
    Does Tryz.prog 76 #[.pointer (some ⟨rp, 0, none⟩), kv, .int .i64 torn] [[(rp, .cells #[v, pv, .bool off, .int .i64 (left : Int)] 136 (0, 0))], sv, sp, M] (fun r H' => ∃ sv', r = .tuple #[] ∧ Row 5 v ((vis du (tornL torn (keptW pend zs))).map u8v) sv' ∧ H' = [[(rp, .cells #[v, .slice none 0 0, .bool false, .int .i64 (0 : Int)] 136 (0, 0))], sv', M]) := by
 have hml : maxLen = 9223372036854775807 := rfl
 obtain ⟨bv, cv, hbv⟩ := hr.form
 subst hbv
 obtain ⟨bp, cp, rfl⟩ := hp.form
 have hti := torn_in (torn := torn) (fun p (hp : p ∈ keptW pend zs) => hin p (keptW_in hp))
 have hvis : ∀ k, (vis du ((tornL torn (keptW pend zs)).take k)).length = du.length := fun k => vis_len _ _ (fun p hp => hti p (List.mem_of_mem_take hp))
 have hkl : ∀ k, (keptL k zs).length ≤ k := fun k => by unfold keptL; exact Nat.le_trans (List.length_filter_le ..) (by simp)
 refine spec_enter func76 rfl ntmps76 rfl ?_
 intro u R
 refine Zb [0, 1, 2] ?_
 refine Zq <| Zg <| Za Y <| Z0 <| Zx <| Zq <| Zq <| Zg <| Za Y <| Z0 <| Zx <| at_block <| at_nil ?_
 refine Zb [6, 7, 0, 1, 2] ?_
 refine at_loopB (e0 := [(6, _), (7, _)]) (H0 := _) (n := _) (fun m e H => ∃ (i : Nat) (lv : Value) (sl : List Chunk), m = pend.length - i ∧ (i ≤ pend.length ∧ RowS 2 142 lv (keptL i zs).length (pendC ((keptL i zs).map (fun i => pend.getD i (0, [])))) sl) ∧ e = [(6, lv), (7, .int .i64 (i : Int))] ∧ H = [sl]) (by exact ⟨0, _, [], rfl, ⟨Nat.zero_le _, rowS_nil 2 _⟩, rfl, rfl⟩) (by repeat (first | exact Pull.nil _ | (apply Pull.cons; (focus (repeat (first | exact One.here _ _ | apply One.there)))))) ?_
 rintro _ _ _ ⟨i, lv, sl, rfl, ⟨hi, hl⟩, rfl, rfl⟩
 obtain ⟨bl, cl, rfl⟩ := hl.form
 have hki := hkl i
 refine Zq <| Zq <| Zg <| Zm Y <| Zm Y <| Zp Y rfl <| Zh 1 underlying136 rfl rfl sizeOf134 Y <| Zl isAgg134 Y ?_
 refine Zv (p_len_slice underlying134 Y) ?_
 first | refine op_v (p_lss_nat Y Y) ?_ | refine op_v (p_lss Y Y) ?_
 refine Z0 <| Zx ?_
 first | refine at_if Y (fun hlt => ?_) (fun hlt => ?_) | refine at_if_bool Y (fun hlt => ?_) (fun hlt => ?_)
 ·
  refine at_skip <| Zx <| Zq <| at_block <| Zq <| Zg <| Zm Y <| Zm Y <| Zr [_, _] Y call126 Y rfl (has_spec hv i) ?_
  rintro _ _ ⟨rfl, rfl⟩
  refine Z0 <| Zx ?_
  first | refine at_if Y (fun hhas => ?_) (fun hhas => ?_) | refine at_if_bool Y (fun hhas => ?_) (fun hhas => ?_)
  ·
   obtain ⟨x, hx⟩ : ∃ x, pend[i]? = some x := ⟨_, List.getElem?_eq_getElem hlt⟩
   obtain ⟨g1, cap1, cur1, z1, hv1, rfl, hle1, hg1, hg2⟩ := pend_row hp hx
   injection hv1 with e4 e5 e6
   subst e4 e6
   have hsz1 := (Array.getElem?_eq_some_iff.1 hg2).1
   have hex := extract_two hg1 hg2
   refine Zg <| Zm Y <| Zm Y <| Zp Y rfl <| Zh 1 underlying136 rfl rfl sizeOf134 Y <| Zl isAgg134 Y ?_
   refine Zm Y ?_
   (refine op_v (p_indexAddr_nat underlying134 sizeOf142 Y Y ?_) ?_; (focus (first | omega | (simp; done))))
   refine Zo (by repeat (first | exact Has.here _ | apply Has.there)) (p_load_agg (cs := #[.int .i64 (x.1 : Int), .string (str x.2)]) isAgg142 sizeOf142 Y (by first | omega | (simp; done)) (by first | exact hex | (rw [Nat.zero_add]; exact hex))) ?_
   refine Ze (w_buildSlice (vs := [_]) (cs := [_, _]) underlying134 sizeOf142 zeroValue142 Y rfl rfl rfl rfl rfl) ?_
   rintro _ _ ⟨gs, rfl, rfl⟩
   refine Ze (w_appendS (by_ := 24) (sz := 2) (news := [_, _]) underlying134 (rfl : Tryz.prog.info? 142 = some Tryz.t142) rfl rfl rfl rfl Y hl Y (by repeat (first | exact One.here _ _ | apply One.there)) (by repeat (first | exact Has.here _ | apply Has.there)) (by rfl) rfl (by simp [Value.oneCell', Value.cells]) (by decide) (by omega) (by omega)) ?_
   rintro _ _ ⟨sq, hrq, rfl⟩
   obtain ⟨gq, cq, rfl⟩ := hrq.form
   refine Za Y <| Z0 <| Zn [0, 1, 2, 6, 7] ?_
   refine nx_block_normal <| Zx <| Zg <| Zm Y ?_
   first | (refine op_v (p_add_nat (n := 1) Y Y ?_) ?_; (focus (omega))) | (refine op_v (p_add Y Y (IntWalk.i64_in _ ?_)) ?_; (focus (omega)))
   refine Za Y <| Z0 <| Zn [6, 7, 0, 1, 2] ?_
   refine nx_againB (e' := [(6, _), (7, _)]) (m := _) (H' := _) (by first | exact ⟨i + 1, _, _, rfl, ⟨by omega, by rw [kwm_yes hhas hx, pendC_snoc, kw_yes pend zs i hhas, List.length_append]; exact hrq⟩, rfl, rfl⟩ | exact ⟨i + 1, _, _, rfl, ⟨by omega, by rw [kw_no pend zs i hhas]; exact hl⟩, rfl, rfl⟩)
  ·
   refine at_skip <| nx_block_normal <| Zx <| Zg <| Zm Y ?_
   first | (refine op_v (p_add_nat (n := 1) Y Y ?_) ?_; (focus (omega))) | (refine op_v (p_add Y Y (IntWalk.i64_in _ ?_)) ?_; (focus (omega)))
   refine Za Y <| Z0 <| Zn [6, 7, 0, 1, 2] ?_
   refine nx_againB (e' := [(6, _), (7, _)]) (m := _) (H' := _) (by first | exact ⟨i + 1, _, _, rfl, ⟨by omega, by rw [kwm_yes hhas hx, pendC_snoc, kw_yes pend zs i hhas, List.length_append]; exact hrq⟩, rfl, rfl⟩ | exact ⟨i + 1, _, _, rfl, ⟨by omega, by rw [kw_no pend zs i hhas]; exact hl⟩, rfl, rfl⟩)
 ·
  have ei : i = pend.length := by omega
  subst ei
  obtain ⟨ws, hws⟩ : ∃ ws, ws = keptW pend zs := ⟨_, rfl⟩
  have hl : RowS 2 142 (.slice bl (keptL pend.length zs).length cl) (keptL pend.length zs).length (pendC ws) sl := by rw [hws]; exact hl
  have hwn : ws.length = (keptL pend.length zs).length := by rw [hws]; unfold keptW; rw [List.length_map]
  rw [← hwn] at hl ⊢
  rw [← hws] at hti hvis ⊢
  refine at_exit <| Zt <| Zt <| nx_block_exit <| Zx <| Zq <| Zq <| Zg <| Za Y <| Z0 <| Zx <| at_block <| Zb [8, 0, 2, 6] ?_
  refine at_loopB (e0 := [(8, _)]) (H0 := _) (n := _) (fun m e H => ∃ (i : Nat) (sv : List Chunk), m = ws.length - i ∧ (i ≤ ws.length ∧ Row 5 (.slice bv (List.map u8v du).length cv) ((vis du ((tornL torn ws).take i)).map u8v) sv) ∧ e = [(8, .int .i64 (i : Int))] ∧ H = [sv]) (by exact ⟨0, _, rfl, ⟨Nat.zero_le _, hr⟩, rfl, rfl⟩) (by repeat (first | exact Pull.nil _ | (apply Pull.cons; (focus (repeat (first | exact One.here _ _ | apply One.there)))))) ?_
  rintro _ _ _ ⟨i, sv, rfl, ⟨hi, hrv⟩, rfl, rfl⟩
  refine Zq <| Zq <| Zg <| Zm Y <| Zm Y <| Zv (p_len_slice underlying134 Y) ?_
  first | refine op_v (p_lss_nat Y Y) ?_ | refine op_v (p_lss Y Y) ?_
  refine Z0 <| Zx ?_
  first | refine at_if Y (fun hlt2 => ?_) (fun hlt2 => ?_) | refine at_if_bool Y (fun hlt2 => ?_) (fun hlt2 => ?_)
  ·
   refine at_skip <| Zx <| Zq <| at_block <| Zq ?_
   obtain ⟨x, hwi⟩ : ∃ x, ws[i]? = some x := ⟨_, List.getElem?_eq_getElem hlt2⟩
   have hxin : x.1 + x.2.length ≤ du.length := hin x (keptW_in (by rw [← hws]; exact List.mem_of_getElem? hwi))
   have hps := str_size x.2
   obtain ⟨g3, cap3, cur3, z3, hv3, rfl, hle3, hg3, hg4⟩ := pend_row hl hwi
   injection hv3 with e4 e5 e6
   subst e4 e6
   refine Zg <| Zm Y <| Zm Y ?_
   (refine op_v (p_indexAddr_nat underlying134 sizeOf142 Y Y ?_) ?_; (focus (omega)))
   refine Zv (p_fieldAddr1 (off := 1) underlying142 rfl rfl sizeOf9 Y) <| Zl isAgg9 Y (hv := by first | exact hg4 | (rw [show 0 + i * 2 + 1 = i * 2 + 1 by omega]; exact hg4)) ?_
   refine Za Y <| Z0 <| Zx <| Zq <| Zq <| Zg <| Zm Y <| Zm Y <| Zv (p_len_slice underlying134 Y) ?_
   first | (refine op_v (p_sub_nat (n := 1) Y Y ?_ ?_) ?_; (focus (omega)); (focus (omega))) | (refine op_v (p_sub Y Y (IntWalk.i64_in _ ?_)) ?_; (focus (omega)))
   first | refine op_v (p_eql_nat Y Y) ?_ | refine op_v (p_eql Y Y) ?_
   refine Zm Y ?_
   first | refine ops_split (t := 48) Y rfl (fun hlast => ?_) (fun hlast => ?_) | refine ops_split_bool (t := 48) Y rfl (fun hlast => ?_) (fun hlast => ?_)
   ·
    refine Zf Y Y ?_
    first | refine op_wg Y (p_geq_nat (n := 0) Y Y) rfl rfl ?_ | refine op_wg Y (p_geq Y Y) rfl rfl ?_
    refine Zv (p_pick_t Y Y) <| Zm Y ?_
    first | refine ops_split (t := 52) Y rfl (fun htn => ?_) (fun htn => ?_) | refine ops_split_bool (t := 52) Y rfl (fun htn => ?_) (fun htn => ?_)
    ·
     obtain ⟨tn, ht0⟩ := Int.eq_ofNat_of_zero_le htn
     refine Zf Y Y <| Zf Y Y <| op_wg Y (p_len_str underlying9 Y) rfl rfl ?_
     first | refine op_wg Y (p_lss_nat Y Y) rfl rfl ?_ | refine op_wg Y (p_lss Y Y) rfl rfl ?_
     refine Zv (p_pick_t Y Y) <| Z0 <| Zn [0, 2, 6, 8, 9, 57] ?_
     refine Zx ?_
     first | refine at_if Y (fun hshort => ?_) (fun hshort => ?_) | refine at_if_bool Y (fun hshort => ?_) (fun hshort => ?_)
     ·
      refine Zg <| Zm Y <| Zm Y <| op_w (p_slice_take underlying9 Y (fun _ => congrArg (Value.int .i64) ht0) (by omega)) rfl rfl ?_
      refine Za Y <| Z0 <| Zx <| at_draw (n := 11) (0 :: 1 :: 3 :: 7 :: 0 :: 0 :: 48 :: 112 :: 240 :: 0 :: 1023 :: []) 1024 (by kernel_rfl) (by kernel_rfl) rfl ?_
      refine Zi 1 0 rfl (p_move Y) <| Zi 3 1 rfl (p_nilChk Y rfl) <| Zi 7 2 rfl (p_fieldAddr0 (off := 0) underlying136 rfl rfl sizeOf36 Y) <| Zj 15 3 rfl isAgg36 Y ?_
      refine Zi 31 4 rfl (p_move Y) <| Zi 63 5 rfl (p_move Y) ?_
      (refine lin_v (D' := 127) 6 (p_indexAddr_nat underlying134 sizeOf142 Y Y ?_) ?_; (focus (omega)))
      refine Zi 255 7 rfl (p_fieldAddr1 (off := 0) underlying142 rfl rfl sizeOf3 Y) <| Zj 511 8 rfl isAgg3 Y (hv := by first | exact hg3 | (rw [Nat.zero_add]; exact hg3)) ?_
      refine Zi 1023 9 rfl (p_move Y) <| Zz (l := [10]) ?_
      have htw : (tornL torn (ws))[i]? = some (x.1, x.2.take tn) := by
        rw [torn_at (torn := torn) hwi, if_pos ⟨by omega, by omega⟩, ht0]; rfl
      refine Zy 1023 2047 [8, 3] [false, false] [] rfl Y rfl rfl rfl rfl (Zw [_, _, _] Y call117 Y rfl (apply_spec hrv x.1 (by rw [hvis, List.length_take]; omega) (by rw [hvis]; exact hd))) ?hk_5 no_pan ?hl_5
      case hk_5 =>
       rintro _ _ ⟨_, ⟨sq, rfl, hrq, rfl⟩, rfl⟩
       refine ⟨keep_nil, ?_⟩
       rw [vis_step htw] at hrq
       refine lin_nil ?_
       refine Zn [0, 2, 6, 8] ?_
       refine nx_block_normal <| Zx <| Zg <| Zm Y ?_
       first | (refine op_v (p_add_nat (n := 1) Y Y ?_) ?_; (focus (omega))) | (refine op_v (p_add Y Y (IntWalk.i64_in _ ?_)) ?_; (focus (omega)))
       refine Za Y <| Z0 <| Zn [8, 0, 2, 6] ?_
       refine nx_againB (e' := [(8, _)]) (m := _) (H' := _) (by exact ⟨i + 1, _, rfl, ⟨by omega, hrq⟩, rfl, rfl⟩)
      case hl_5 =>
       exact each_nil
     ·
      refine at_skip <| Zx <| at_draw (n := 11) (0 :: 1 :: 3 :: 7 :: 0 :: 0 :: 48 :: 112 :: 240 :: 0 :: 1023 :: []) 1024 (by kernel_rfl) (by kernel_rfl) rfl ?_
      refine Zi 1 0 rfl (p_move Y) <| Zi 3 1 rfl (p_nilChk Y rfl) <| Zi 7 2 rfl (p_fieldAddr0 (off := 0) underlying136 rfl rfl sizeOf36 Y) <| Zj 15 3 rfl isAgg36 Y ?_
      refine Zi 31 4 rfl (p_move Y) <| Zi 63 5 rfl (p_move Y) ?_
      (refine lin_v (D' := 127) 6 (p_indexAddr_nat underlying134 sizeOf142 Y Y ?_) ?_; (focus (omega)))
      refine Zi 255 7 rfl (p_fieldAddr1 (off := 0) underlying142 rfl rfl sizeOf3 Y) <| Zj 511 8 rfl isAgg3 Y (hv := by first | exact hg3 | (rw [Nat.zero_add]; exact hg3)) ?_
      refine Zi 1023 9 rfl (p_move Y) <| Zz (l := [10]) ?_
      have htw : (tornL torn ws)[i]? = some (x.1, x.2) := by
        rw [torn_at (torn := torn) hwi, if_pos ⟨by omega, by omega⟩, ht0, Int.toNat_natCast, List.take_of_length_le (by omega)]
      refine Zy 1023 2047 [8, 3] [false, false] [] rfl Y rfl rfl rfl rfl (Zw [_, _, _] Y call117 Y rfl (apply_spec hrv x.1 (by rw [hvis]; exact hxin) (by rw [hvis]; exact hd))) ?hk_7 no_pan ?hl_7
      case hk_7 =>
       rintro _ _ ⟨_, ⟨sq, rfl, hrq, rfl⟩, rfl⟩
       refine ⟨keep_nil, ?_⟩
       rw [vis_step htw] at hrq
       refine lin_nil ?_
       refine nx_block_normal <| Zx <| Zg <| Zm Y ?_
       first | (refine op_v (p_add_nat (n := 1) Y Y ?_) ?_; (focus (omega))) | (refine op_v (p_add Y Y (IntWalk.i64_in _ ?_)) ?_; (focus (omega)))
       refine Za Y <| Z0 <| Zn [8, 0, 2, 6] ?_
       refine nx_againB (e' := [(8, _)]) (m := _) (H' := _) (by exact ⟨i + 1, _, rfl, ⟨by omega, hrq⟩, rfl, rfl⟩)
      case hl_7 =>
       exact each_nil
    ·
     refine op_skip Y rfl <| op_skip Y rfl <| op_skip Y rfl <| op_skip Y rfl <| Zv (p_pick_f Y Y) <| Z0 <| Zn [0, 2, 6, 8, 9, 57] ?_
     refine Zx <| at_else Y <| at_skip <| Zx <| at_draw (n := 11) (0 :: 1 :: 3 :: 7 :: 0 :: 0 :: 48 :: 112 :: 240 :: 0 :: 1023 :: []) 1024 (by kernel_rfl) (by kernel_rfl) rfl ?_
     refine Zi 1 0 rfl (p_move Y) <| Zi 3 1 rfl (p_nilChk Y rfl) <| Zi 7 2 rfl (p_fieldAddr0 (off := 0) underlying136 rfl rfl sizeOf36 Y) <| Zj 15 3 rfl isAgg36 Y ?_
     refine Zi 31 4 rfl (p_move Y) <| Zi 63 5 rfl (p_move Y) ?_
     (refine lin_v (D' := 127) 6 (p_indexAddr_nat underlying134 sizeOf142 Y Y ?_) ?_; (focus (omega)))
     refine Zi 255 7 rfl (p_fieldAddr1 (off := 0) underlying142 rfl rfl sizeOf3 Y) <| Zj 511 8 rfl isAgg3 Y (hv := by first | exact hg3 | (rw [Nat.zero_add]; exact hg3)) ?_
     refine Zi 1023 9 rfl (p_move Y) <| Zz (l := [10]) ?_
     have htw : (tornL torn (ws))[i]? = some (x.1, x.2) := by
       rw [torn_at (torn := torn) hwi, if_neg (by omega)]
     refine Zy 1023 2047 [8, 3] [false, false] [] rfl Y rfl rfl rfl rfl (Zw [_, _, _] Y call117 Y rfl (apply_spec hrv x.1 (by rw [hvis]; exact hxin) (by rw [hvis]; exact hd))) ?hk_9 no_pan ?hl_9
     case hk_9 =>
      rintro _ _ ⟨_, ⟨sq, rfl, hrq, rfl⟩, rfl⟩
      refine ⟨keep_nil, ?_⟩
      rw [vis_step htw] at hrq
      refine lin_nil ?_
      refine nx_block_normal <| Zx <| Zg <| Zm Y ?_
      first | (refine op_v (p_add_nat (n := 1) Y Y ?_) ?_; (focus (omega))) | (refine op_v (p_add Y Y (IntWalk.i64_in _ ?_)) ?_; (focus (omega)))
      refine Za Y <| Z0 <| Zn [8, 0, 2, 6] ?_
      refine nx_againB (e' := [(8, _)]) (m := _) (H' := _) (by exact ⟨i + 1, _, rfl, ⟨by omega, hrq⟩, rfl, rfl⟩)
     case hl_9 =>
      exact each_nil
   ·
    refine op_skip Y rfl <| op_skip Y rfl <| Zv (p_pick_f Y Y) <| Zm Y <| op_skip Y rfl <| op_skip Y rfl <| op_skip Y rfl <| op_skip Y rfl <| Zv (p_pick_f Y Y) <| Z0 <| Zn [0, 2, 6, 8, 9, 57] ?_
    refine Zx <| at_else Y <| at_skip <| Zx <| at_draw (n := 11) (0 :: 1 :: 3 :: 7 :: 0 :: 0 :: 48 :: 112 :: 240 :: 0 :: 1023 :: []) 1024 (by kernel_rfl) (by kernel_rfl) rfl ?_
    refine Zi 1 0 rfl (p_move Y) <| Zi 3 1 rfl (p_nilChk Y rfl) <| Zi 7 2 rfl (p_fieldAddr0 (off := 0) underlying136 rfl rfl sizeOf36 Y) <| Zj 15 3 rfl isAgg36 Y ?_
    refine Zi 31 4 rfl (p_move Y) <| Zi 63 5 rfl (p_move Y) ?_
    (refine lin_v (D' := 127) 6 (p_indexAddr_nat underlying134 sizeOf142 Y Y ?_) ?_; (focus (omega)))
    refine Zi 255 7 rfl (p_fieldAddr1 (off := 0) underlying142 rfl rfl sizeOf3 Y) <| Zj 511 8 rfl isAgg3 Y (hv := by first | exact hg3 | (rw [Nat.zero_add]; exact hg3)) ?_
    refine Zi 1023 9 rfl (p_move Y) <| Zz (l := [10]) ?_
    have htw : (tornL torn (ws))[i]? = some (x.1, x.2) := by
      rw [torn_at (torn := torn) hwi, if_neg (by omega)]
    refine Zy 1023 2047 [8, 3] [false, false] [] rfl Y rfl rfl rfl rfl (Zw [_, _, _] Y call117 Y rfl (apply_spec hrv x.1 (by rw [hvis]; exact hxin) (by rw [hvis]; exact hd))) ?hk_11 no_pan ?hl_11
    case hk_11 =>
     rintro _ _ ⟨_, ⟨sq, rfl, hrq, rfl⟩, rfl⟩
     refine ⟨keep_nil, ?_⟩
     rw [vis_step htw] at hrq
     refine lin_nil ?_
     refine nx_block_normal <| Zx <| Zg <| Zm Y ?_
     first | (refine op_v (p_add_nat (n := 1) Y Y ?_) ?_; (focus (omega))) | (refine op_v (p_add Y Y (IntWalk.i64_in _ ?_)) ?_; (focus (omega)))
     refine Za Y <| Z0 <| Zn [8, 0, 2, 6] ?_
     refine nx_againB (e' := [(8, _)]) (m := _) (H' := _) (by exact ⟨i + 1, _, rfl, ⟨by omega, hrq⟩, rfl, rfl⟩)
    case hl_11 =>
     exact each_nil
  ·
   rw [List.take_of_length_le (show (tornL torn ws).length ≤ i by rw [torn_len]; omega)] at hrv
   refine at_exit <| Zt <| Zt <| nx_block_exit <| Zx <| Zq <| Zg <| Zm Y <| Zp Y rfl <| Zh 1 underlying136 rfl rfl sizeOf134 Y <| Ze (Zs sizeOf134 Y Y rfl) ?_
   rintro _ _ ⟨rfl, rfl⟩
   refine Z0 <| Zx <| Zq <| Zg <| Zm Y <| Zp Y rfl <| Zh 2 underlying136 rfl rfl sizeOf4 Y <| Ze (Zs sizeOf4 Y Y rfl) ?_
   rintro _ _ ⟨rfl, rfl⟩
   refine Z0 <| Zx <| Zg <| Zm Y <| Zp Y rfl <| Zh 3 underlying136 rfl rfl sizeOf3 Y <| Ze (Zs sizeOf3 Y Y rfl) ?_
   rintro _ _ ⟨rfl, rfl⟩
   refine Z0 ?_
   refine nx_end0 rfl results76 (by exact ⟨_, rfl, hrv, rfl⟩)

theorem disk_crash (d : DiskS) (dp : Nat) (s M : List Chunk) (v : Value) (zs : List Int) (torn : Int) (hR : DiskR d dp s) (hin : ∀ p ∈ d.pend, p.1 + p.2.length ≤ d.du.length ∧ p.1 < d.du.length) (hpl : d.pend.length ≤ 1000000) (hv : IntsIn M v zs) (hzl : zs.length ≤ 1000000) (ht1 : -9223372036854775808 ≤ torn) (ht2 : torn ≤ 9223372036854775807) :
    Does Tryz.prog 35 #[.pointer (some ⟨dp, 0, none⟩), v, .int .i64 torn] [s, M] (fun r H' => ∃ s', r = .int .i64 0 ∧ DiskR (d.crash zs torn) dp s' ∧ H' = [s', M]) := by
  obtain ⟨⟨hl, h1, h4, hlf⟩, bd, bv, pv, sp, hr, rfl⟩ := hR
  obtain ⟨off, left, du, vi, pend⟩ := d
  simp only at *
  have hin' : ∀ p ∈ pend, p.1 + p.2.length ≤ vi.length ∧ p.1 < vi.length := fun p hp => by have := hin p hp; omega
  have hti := torn_in (torn := torn) (fun p (hp : p ∈ keptW pend zs) => (hin p (keptW_in hp)).1)
  have hlen : (vis du (tornL torn (keptW pend zs))).length = vi.length := by rw [vis_len _ _ hti, hl]
  refine does_mono (does_flat (by simp) (crash_main dp bd bv vi.length left off pv v pend du vi sp M zs torn hl rfl h4 hr hin' hpl hv hzl ht1 ht2)) ?_
  rintro r _ ⟨b, c, sp', rfl, hr', rfl⟩
  refine ⟨_, ⟨_, rfl, ⟨⟨rfl, by show 1 ≤ (vis du (tornL torn (keptW pend zs))).length; omega, by show (vis du (tornL torn (keptW pend zs))).length ≤ 4194304; omega, Nat.zero_le _⟩, bd, bv, .slice b 0 c, sp', hr', rfl⟩, rfl⟩, ?_⟩
  simp only [DiskS.crash, hlen]
  simp
theorem rd_crash (d : DiskS) (rp : Nat) (s M : List Chunk) (v : Value) (zs : List Int) (torn : Int) (hR : RdR d rp s) (hpl : d.pend.length ≤ 1000000) (hv : IntsIn M v zs) (ht1 : -9223372036854775808 ≤ torn) (ht2 : torn ≤ 9223372036854775807) :
    Does Tryz.prog 76 #[.pointer (some ⟨rp, 0, none⟩), v, .int .i64 torn] [s, M] (fun r H' => ∃ s', r = .tuple #[] ∧ RdR (d.crash zs torn) rp s' ∧ H' = [s', M]) := by
  obtain ⟨⟨hl, h1, h4, hlf⟩, ⟨hvi, hin⟩, v0, pv, sv, sp, hr, hp, rfl⟩ := hR
  obtain ⟨off, left, du, vi, pend⟩ := d
  simp only at *
  have hti := torn_in (torn := torn) (fun p (hp : p ∈ keptW pend zs) => hin p (keptW_in hp))
  have hlen : (vis du (tornL torn (keptW pend zs))).length = vi.length := by rw [vis_len _ _ hti, hl]
  refine does_mono (does_flat (by simp) (rcrash_main rp left off v0 pv v pend du sv sp M zs torn hr hp hin (by omega) hpl hv ht1 ht2)) ?_
  rintro r _ ⟨sv', rfl, hr', rfl⟩
  exact ⟨_, ⟨_, rfl, ⟨⟨rfl, by show 1 ≤ (vis du (tornL torn (keptW pend zs))).length; omega, by show (vis du (tornL torn (keptW pend zs))).length ≤ 4194304; omega, Nat.zero_le _⟩, ⟨rfl, by simp [DiskS.crash]⟩, v0, .slice none 0 0, sv', [], hr', rowS_nil 2 _, rfl⟩, rfl⟩, by simp [DiskS.crash]⟩

end Go.Proofs.YthbadolcncojbaaGreatDoor
