/- The reference of layer 10: All. -/
/- The reference of layer 10: Path, Computed. -/
/- What damaging keeps. -/
/- The records that integers determine, as a function. -/
import Derived.Test.YtjeepldonhgohaaGreatDoorEz
import Derived.Test.YtjeepldonhgohaaGreatDoorTr22
import Derived.Test.YtjeepldonhgohaaGreatDoorTr26
import Derived.Test.YtjeepldonhgohaaGreatDoorTr28
import Derived.Test.YtjeepldonhgohaaGreatDoorLg10
namespace Go.Proofs.YtjeepldonhgohaaGreatDoor
open Go.Proofs.Tryz
open Go Go.RowKit Gw
set_option linter.unusedVariables false
set_option linter.unusedSimpArgs false
set_option maxRecDepth 100000
attribute [local irreducible] Gw.At Gw.Nx Gw.Ops
def accT (rs : List RowM) (n : Nat) : List Bs := hashedT (sumL rs) ++ (tcs.take n).flatMap fun x => hashedT (encL (ordL rs (x.1 : Int) x.2))
theorem acc_all (rs : List RowM) : accT rs 16 = allT rs := by unfold accT allT; rw [show tcs.take 16 = tcs from rfl]
theorem acc_zero (rs : List RowM) : accT rs 0 = hashedT (sumL rs) := by unfold accT; simp
theorem acc_next (rs : List RowM) {t c : Nat} (ht : t < 4) (hc : c < 4) : accT rs (4 * t + c + 1) = accT rs (4 * t + c) ++ hashedT (encL (ordL rs ((t : Nat) : Int) c)) := by
  unfold accT
  rw [take_snoc (tc_at t ht c hc), List.flatMap_append, List.append_assoc]
  simp
theorem acc_len {rs : List RowM} (hs : SortedR rs) (hn : rs.length ≤ 2000) : ∀ n, n ≤ 16 → (accT rs n).length ≤ 33 + 4001 * n
  | 0, _ => by
    rw [acc_zero]
    have := (hashed_len _ (sumL rs) (Nat.le_refl _)).1
    rw [sumL_len] at this; omega
  | n + 1, h => by
    have ih := acc_len hs hn n (by omega)
    have e : n = 4 * (n / 4) + n % 4 := by omega
    have h1 := acc_next rs (t := n / 4) (c := n % 4) (by omega) (by omega)
    rw [← e] at h1
    have h2 := (hashed_len _ (encL (ordL rs ((n / 4 : Nat) : Int) (n % 4))) (Nat.le_refl _)).1
    have h3 := ordL_len hs ((n / 4 : Nat) : Int) (n % 4)
    rw [encL_len] at h2
    rw [h1, List.length_append]
    omega
theorem all_ok {rs : List RowM} (hs : SortedR rs) (hn : rs.length ≤ 2000) (hok : ∀ r ∈ rs, r.ok) : (∀ s ∈ allT rs, s.length ≤ 1000) ∧ (allT rs).length ≤ 100000 := by
  refine ⟨fun s h => ?_, ?_⟩
  · rcases List.mem_append.1 h with h | h
    · exact hashed_ok _ _ 1000 (Nat.le_refl _) (by decide) (fun x hx => by obtain ⟨y, _, rfl⟩ := List.mem_map.1 hx; have := summ_len hs hn y; omega) s h
    · obtain ⟨x, _, h⟩ := List.mem_flatMap.1 h
      exact hashed_ok _ _ 1000 (Nat.le_refl _) (by decide) (fun z hz => by have := encL_ok (fun r hr => hok r (range_mem hr)) z hz; omega) s h
  · have := acc_len hs hn 16 (by omega)
    rw [acc_all] at this; omega

theorem r10_all (rp : Nat) (p : Int) (w : Value) (rs : List RowM) (sv : List Chunk) (hrow : RowS 5 74 w rs.length (rowCells rs) sv) (hn : rs.length ≤ 2000) (hs : SortedR rs) (hok : ∀ r ∈ rs, r.ok) : Does Tryz.prog 28 #[.pointer (some ⟨rp, 0, none⟩)] [[(rp, .cells #[w, .int .i64 p] 121 (0, 0))], sv] (fun r H' => ∃ so, RowS 1 9 r (allT rs).length ((allT rs).map strV) so ∧ H' = [so, [(rp, .cells #[w, .int .i64 p] 121 (0, 0))], sv]) := by
 have hml : maxLen = 9223372036854775807 := rfl
 refine spec_enter func28 rfl ntmps28 rfl ?_
 intro u R
 refine Zb [0] ?_
 refine Zq <| Zg <| Za Y <| Z0 <| Zx <| Zq <| Zg <| Zm Y <| Zc [_] Y call36 Y rfl (r10_summ rp p w rs sv hrow hn hs hok) ?_
 rintro _ _ ⟨_, ⟨sm, hm0, rfl⟩, rfl⟩
 have hSm := strsU_row (rowS_eq hm0 (sumL_len rs).symm rfl) (by rw [sumL_len]; omega)
 refine Zc [_] Y call70 Y rfl (r10_hashed _ (Nat.le_refl _) hSm (by rw [sumL_len]; omega) (fun s h => by obtain ⟨x, _, rfl⟩ := List.mem_map.1 h; have := summ_len hs hn x; omega)) ?_
 rintro _ _ ⟨_, ⟨sh, hh0, rfl⟩, rfl⟩
 rw [← acc_zero] at hh0
 refine Za Y <| Z0 <| Zx <| Zq <| Zq <| Zg <| Za Y <| Z0 <| Zx <| at_block <| Zb [3, 4, 0] ?_
 refine at_loopB (e0 := [(3, _), (4, _)]) (H0 := _) (n := _) (fun m e H => ∃ (t : Nat) (vo : Value) (so : List Chunk), m = 4 - t ∧ (t ≤ 4 ∧ RowS 1 9 vo (accT rs (4 * t)).length ((accT rs (4 * t)).map strV) so) ∧ e = [(3, vo), (4, .int .i64 (t : Int))] ∧ H = [so]) (by exact ⟨0, _, sh, rfl, ⟨by omega, hh0⟩, rfl, rfl⟩) (by repeat (first | exact Pull.nil _ | (apply Pull.cons; (focus (repeat (first | exact One.here _ _ | apply One.there)))))) ?_
 rintro _ _ _ ⟨t, vo, so, rfl, ⟨ht, hro⟩, rfl, rfl⟩
 refine Zq <| Zq <| Zg <| Zm Y <| Zv (p_lss_nat (n := 4) Y Y) <| Z0 <| Zx ?_
 refine at_if Y (fun ht4 => ?_) (fun ht4 => ?_)
 ·
  refine at_skip <| Zx <| Zq <| at_block <| Zq <| Zg <| Za Y <| Z0 <| Zx <| at_block <| Zb [3, 5, 0, 4] ?_
  refine at_loopB (e0 := [(3, _), (5, _)]) (H0 := _) (n := _) (fun m e H => ∃ (c : Nat) (vo2 : Value) (so2 : List Chunk), m = 4 - c ∧ (c ≤ 4 ∧ RowS 1 9 vo2 (accT rs (4 * t + c)).length ((accT rs (4 * t + c)).map strV) so2) ∧ e = [(3, vo2), (5, .int .i64 (c : Int))] ∧ H = [so2]) (by exact ⟨0, vo, so, rfl, ⟨by omega, hro⟩, rfl, rfl⟩) (by repeat (first | exact Pull.nil _ | (apply Pull.cons; (focus (repeat (first | exact One.here _ _ | apply One.there)))))) ?_
  rintro _ _ _ ⟨c, vo2, so2, rfl, ⟨hc, hro2⟩, rfl, rfl⟩
  obtain ⟨qo, co, rfl⟩ := hro2.form
  have hal := acc_len hs hn (4 * t + c) (by omega)
  refine Zq <| Zq <| Zg <| Zm Y <| Zv (p_lss_nat (n := 4) Y Y) <| Z0 <| Zx ?_
  refine at_if Y (fun hc4 => ?_) (fun hc4 => ?_)
  ·
   have hol := ordL_len hs (t : Int) c
   refine at_skip <| Zx <| Zq <| at_block <| Zg <| Zm Y <| Zm Y <| Zm Y <| Zm Y <| Zc [_, _, _] Y call46 Y rfl (r10_order rp p w rs sv hrow hn (t : Int) c (by omega)) ?_
   rintro _ _ ⟨_, ⟨sx, hx, rfl⟩, rfl⟩
   have hUx := rowsU_row hx (by omega)
   refine Zc [_] Y call47 Y rfl (r10_entries hUx (by omega) (fun r h => hok r (range_mem h))) ?_
   rintro _ _ ⟨_, ⟨se, he, rfl⟩, rfl⟩
   obtain ⟨qe, ce, rfl⟩ := he.form
   have hSe : StrsU se (.slice qe (ordL rs (t : Int) c).length ce) (encL (ordL rs (t : Int) c)) := strsU_row (rowS_eq he (encL_len _).symm rfl) (by rw [encL_len]; omega)
   have hzl := (hashed_len _ (encL (ordL rs (t : Int) c)) (Nat.le_refl _)).1
   rw [encL_len] at hzl
   refine Zc [_] Y call70 Y rfl (r10_hashed _ (Nat.le_refl _) hSe (by rw [encL_len]; omega) (fun s h => by have := encL_ok (fun r hr => hok r (range_mem hr)) s h; omega)) ?_
   rintro _ _ ⟨_, ⟨sg, hg0, rfl⟩, rfl⟩
   obtain ⟨qg, cg, rfl⟩ := hg0.form
   refine Ze (w_append_subS (by_ := 16) (sz := 1) underlying35 (rfl : Tryz.prog.info? 9 = some Tryz.t9) rfl rfl rfl rfl Y (hro2) Y (subS_of hg0) (by repeat (first | exact One.here _ _ | apply One.there)) (by repeat (first | exact One.here _ _ | apply One.there)) (by exact strV_one _) (by omega) (by omega)) ?_
   rintro _ _ ⟨sw5, hrw5, rfl⟩
   obtain ⟨gw5, cw5, rfl⟩ := hrw5.form
   refine Za Y <| Z0 <| nx_block_normal <| Zx <| Zg <| Zm Y <| Ya (n := 1) Y Y <| Za Y <| Z0 <| Zn [3, 5, 0, 4] ?_
   refine nx_againB (e' := [(3, _), (5, _)]) (m := _) (H' := _) (by exact ⟨c + 1, _, _, rfl, ⟨by omega, rowS_eq hrw5 (by rw [← Nat.add_assoc, acc_next rs ht4 hc4, List.length_append]) (by rw [← Nat.add_assoc, acc_next rs ht4 hc4, List.map_append])⟩, rfl, rfl⟩)
  ·
   refine at_exit <| Zt <| Zt <| nx_block_exit <| nx_block_normal <| Zx <| Zg <| Zm Y <| Ya (n := 1) Y Y <| Za Y <| Z0 <| Zn [3, 4, 0] ?_
   refine nx_againB (e' := [(3, _), (4, _)]) (m := _) (H' := _) (by exact ⟨t + 1, _, so2, rfl, ⟨by omega, by have e4 : c = 4 := (by omega); subst e4; exact hro2⟩, rfl, rfl⟩)
 ·
  have e4 : t = 4 := by omega
  subst e4
  refine at_exit <| Zt <| Zt <| nx_block_exit <| Zx <| Zq <| Zg <| Zm Y <| Za Y <| Z0 <| Zx <| at_ret ?_
  refine nx_end1 rfl results28 Y (by exact ⟨so, rowS_eq hro (by rw [← acc_all]) (by rw [← acc_all]), rfl⟩)

end Go.Proofs.YtjeepldonhgohaaGreatDoor


namespace Go.Proofs.YtjeepldonhgohaaGreatDoor
open Go.Proofs.Tryz
open Go Go.RowKit Gw
set_option linter.unusedVariables false
set_option linter.unusedSimpArgs false
set_option maxRecDepth 100000
attribute [local irreducible] Gw.At Gw.Nx Gw.Ops
theorem path_nil (s : Bs) (n i : Nat) : pathR s n i [] = [0 :: s] := rfl
theorem path_one {s : Bs} {n i : Nat} (h : n ≤ 1) (rp : List Bs) : pathR s n i rp = [0 :: s] := by
  cases rp with
  | nil => rfl
  | cons x rp => rw [pathR, if_pos h]
theorem path_first {s x : Bs} {n i : Nat} (h : 2 ≤ n) (hi : i < leftN n) (rp : List Bs) : pathR s n i (x :: rp) = pathR s (leftN n) i rp ++ [1 :: (sha ((pathR s (leftN n) i rp).getLastD []) ++ x)] := by
  rw [pathR, if_neg (by omega), if_pos hi]
theorem path_second {s x : Bs} {n i : Nat} (h : 2 ≤ n) (hi : ¬ i < leftN n) (rp : List Bs) : pathR s n i (x :: rp) = pathR s (n - leftN n) (i - leftN n) rp ++ [1 :: (x ++ sha ((pathR s (n - leftN n) (i - leftN n) rp).getLastD []))] := by
  rw [pathR, if_neg (by omega), if_neg hi]
theorem path_len : ∀ (rp : List Bs) (s : Bs) (n i : Nat), 0 < (pathR s n i rp).length ∧ (pathR s n i rp).length ≤ rp.length + 1
  | [], s, n, i => by rw [path_nil]; simp
  | x :: rp, s, n, i => by
    by_cases h : n ≤ 1
    · rw [path_one h]; simp
    · by_cases hi : i < leftN n
      · have := path_len rp s (leftN n) i
        rw [path_first (by omega) hi, List.length_append, List.length_singleton, List.length_cons]; omega
      · have := path_len rp s (n - leftN n) (i - leftN n)
        rw [path_second (by omega) hi, List.length_append, List.length_singleton, List.length_cons]; omega
theorem path_ok : ∀ (rp : List Bs) (s : Bs) (n i m : Nat), s.length + 1 ≤ m → (∀ x ∈ rp, x.length + 33 ≤ m) → ∀ y ∈ pathR s n i rp, y.length ≤ m
  | [], s, n, i, m, h1, h2, y, hy => by
    rw [path_nil, List.mem_singleton] at hy
    subst hy; rw [List.length_cons]; exact h1
  | x :: rp, s, n, i, m, h1, h2, y, hy => by
    have hx := h2 x (by simp)
    have h3 : ∀ z ∈ rp, z.length + 33 ≤ m := fun z hz => h2 z (List.mem_cons_of_mem _ hz)
    by_cases h : n ≤ 1
    · rw [path_one h, List.mem_singleton] at hy
      subst hy; rw [List.length_cons]; exact h1
    · by_cases hi : i < leftN n
      · rw [path_first (by omega) hi, List.mem_append, List.mem_singleton] at hy
        rcases hy with hy | hy
        · exact path_ok rp s _ _ m h1 h3 y hy
        · subst hy; rw [List.length_cons, List.length_append, sha_len]; omega
      · rw [path_second (by omega) hi, List.mem_append, List.mem_singleton] at hy
        rcases hy with hy | hy
        · exact path_ok rp s _ _ m h1 h3 y hy
        · subst hy; rw [List.length_cons, List.length_append, sha_len]; omega
theorem lastD_at {L : List Bs} (h : 0 < L.length) : L[L.length - 1]? = some (L.getLastD []) := by
  rw [← List.getLast?_eq_getElem?]
  cases L with
  | nil => simp at h
  | cons x L => rw [List.getLastD_eq_getLast?]; simp [List.getLast?_cons]
theorem rev_last {l : List Bs} {x : Bs} {m : Nat} (hm : l.length = m + 1) (h : l[m]? = some x) : l.reverse = x :: (l.take m).reverse := by
  rw [← rev_take h, ← hm, List.take_length]

theorem r10_path_step (m : Nat) (e : Bs) (IH : ∀ {M : List Chunk} {v : Value} {ls : List Bs} (n i : Nat), ls.length < m → StrsU M v ls → ls.length ≤ 1000000 → (∀ s ∈ ls, s.length ≤ 1099511627000) → n ≤ 1000000 → i ≤ 1000000 → Does Tryz.prog 71 #[.string (str e), .int .i64 (n : Int), .int .i64 (i : Int), v] [M] (fun r H' => ∃ so, RowS 1 9 r (pathR e n i ls.reverse).length ((pathR e n i ls.reverse).map strV) so ∧ H' = [so, M])) {M : List Chunk} {v : Value} {ls : List Bs} (n i : Nat) (hl9 : ls.length = m) (hv : StrsU M v ls) (hmm : ls.length ≤ 1000000) (hs : ∀ s ∈ ls, s.length ≤ 1099511627000) (he : e.length ≤ 1099511627000) (hn : n ≤ 1000000) (hi9 : i ≤ 1000000) : Does Tryz.prog 71 #[.string (str e), .int .i64 (n : Int), .int .i64 (i : Int), v] [M] (fun r H' => ∃ so, RowS 1 9 r (pathR e n i ls.reverse).length ((pathR e n i ls.reverse).map strV) so ∧ H' = [so, M]) := by
 have hml : maxLen = 9223372036854775807 := rfl
 obtain ⟨p, cap, rfl, hl, hg⟩ := id hv
 refine spec_enter func71 rfl ntmps71 rfl ?_
 intro u R
 refine Zb [0, 1, 2, 3] ?_
 refine Zq <| Zg <| Za Y <| Z0 <| Zx <| Zq <| Zq <| Zg <| Zm Y <| Zv (p_leq_nat (n := 1) Y Y) <| Zm Y ?_
 refine ops_split (t := 16) Y rfl (fun h0 => ?_) (fun h0 => ?_)
 ·
  have e1 : pathR e n i ls.reverse = [0 :: e] := path_one (by omega) _
  refine op_skip Y rfl <| op_skip Y rfl <| op_skip Y rfl <| Zv (p_pick_t Y Y) <| Z0 <| Zx <| at_then Y <| Zq <| Zg <| Zm Y ?_
  (refine op_v (p_add_str Y Y ?_) ?_; (focus (first | (show 1 + _ ≤ _; rw [str_size]; omega))))
  refine Ze (w_buildSlice (vs := [_]) (cs := [_]) underlying35 sizeOf9 zeroValue9 Y rfl rfl rfl rfl rfl) ?_
  rintro _ _ ⟨g1, rfl, rfl⟩
  refine Za Y <| Z0 <| Zx <| at_ret <| Zt ?_
  refine nx_end1 rfl results71 Y (by exact ⟨_, by rw [e1]; exact rowS_eq (rowS_new 1 9 g1 1 [.string (str [0] ++ str e)] rfl (by decide)) rfl (by rw [str_app]; rfl), rfl⟩)
 ·
  refine Zf Y Y <| Yg (p_len_slice underlying35 Y) <| Yg (p_eql_nat (n := 0) Y Y) <| Zv (p_pick_f Y Y) <| Z0 <| Zx ?_
  refine at_if Y (fun h1 => ?_) (fun h1 => ?_)
  ·
   have e1 : pathR e n i ls.reverse = [0 :: e] := by rw [List.eq_nil_of_length_eq_zero h1]; rfl
   refine Zq <| Zg <| Zm Y ?_
   (refine op_v (p_add_str Y Y ?_) ?_; (focus (first | (show 1 + _ ≤ _; rw [str_size]; omega))))
   refine Ze (w_buildSlice (vs := [_]) (cs := [_]) underlying35 sizeOf9 zeroValue9 Y rfl rfl rfl rfl rfl) ?_
   rintro _ _ ⟨g1, rfl, rfl⟩
   refine Za Y <| Z0 <| Zx <| at_ret <| Zt ?_
   refine nx_end1 rfl results71 Y (by exact ⟨_, by rw [e1]; exact rowS_eq (rowS_new 1 9 g1 1 [.string (str [0] ++ str e)] rfl (by decide)) rfl (by rw [str_app]; rfl), rfl⟩)
  ·
   have h9 : 2 ≤ n := by omega
   have hk1 := left_lt h9
   have hk2 := left_pos n
   obtain ⟨x, hx⟩ : ∃ x, ls[ls.length - 1]? = some x := ⟨_, List.getElem?_eq_getElem (by omega)⟩
   have hsx := hs x (List.mem_of_getElem? hx)
   have hrv := rev_last (show ls.length = ls.length - 1 + 1 by omega) hx
   obtain ⟨g, off, cur, T, zz, rfl, hm9, hex9⟩ := hg _ x hx
   have hvt := hv.take (ls.length - 1) (by omega)
   refine at_skip <| Zx <| Zq <| Zg <| Zm Y <| Zr [_] Y call82 Y rfl (r2_left n h9 (by omega)) ?_
   rintro _ _ ⟨rfl, rfl⟩
   refine Za Y <| Z0 <| Zx <| Zq <| Zg <| Zm Y <| Zm Y <| Zv (p_len_slice underlying35 Y) <| Yb (n := 1) Y Y ?_
   (refine op_v (p_indexAddr_nat1 underlying35 sizeOf9 Y Y ?_) ?_; (focus (omega)))
   refine op_rm (cs := [(g, .cells cur T zz)]) (by simp [hm9]) (p_load isAgg9 Y (by exact hex9)) rfl rfl ?_
   refine Za Y <| Z0 <| Zn [0, 1, 2, 3, 9, 10] ?_
   refine Zx <| Zq <| Zg <| Zm Y <| Zm Y <| Zv (p_len_slice underlying35 Y) <| Yb (n := 1) Y Y ?_
   (refine op_v (p_slice_slice_to underlying35 sizeOf9 Y Y ?_) ?_; (focus (omega)))
   refine Za Y <| Z0 <| Zx <| Zq <| Zq <| Zg <| Zm Y <| Zm Y <| Zv (p_lss_nat Y Y) <| Z0 <| Zx ?_
   refine at_if Y (fun hik => ?_) (fun hik => ?_)
   ·
    refine Zq <| Zg <| Zm Y <| Zm Y <| Zm Y <| Zm Y <| Zc [_, _, _, _] Y call71 Y rfl (IH (ls := ls.take (ls.length - 1)) (leftN n) (i) (by rw [List.length_take]; omega) (by exact hvt) (by rw [List.length_take]; omega) (fun s h => hs s (List.mem_of_mem_take h)) (by omega) (by omega)) ?_
    rintro _ _ ⟨_, ⟨sp, hwp, rfl⟩, rfl⟩
    obtain ⟨qp, cp, rfl⟩ := hwp.form
    have hpl := path_len (ls.take (ls.length - 1)).reverse e (leftN n) (i)
    rw [List.length_reverse, List.length_take] at hpl
    have hla := lastD_at hpl.1
    have hlo := path_ok (ls.take (ls.length - 1)).reverse e (leftN n) (i) 1099511627033 (by omega) (fun x h => by have := hs x (List.mem_of_mem_take (List.mem_reverse.1 h)); omega) _ (List.mem_of_getElem? hla)
    obtain ⟨gx, capx, curx, zx, hvx, rfl, hlex, hgx⟩ := rowS_get hwp hpl.1
    injection hvx with e1 e2 e3
    subst e1 e3
    have hxx := hgx _ (strV _) (by rw [List.getElem?_map, hla]; rfl)
    refine Za Y <| Z0 <| Zn [10, 12] ?_
    refine Zx <| Zq <| Zg <| Zm Y <| Zm Y <| Zm Y <| Zv (p_len_slice underlying35 Y) ?_
    (refine op_v (p_sub_nat (n := 1) Y Y ?_ ?_) ?_; (focus (first | omega | (show 1 + _ ≤ _; rw [str_size, sha_len]; omega) | (show (str [1] ++ str _).size + (str _).size ≤ _; rw [str_app, str_size, str_size, List.length_append, sha_len]; show 1 + 32 + _ ≤ _; omega))); (focus (first | omega | (show 1 + _ ≤ _; rw [str_size, sha_len]; omega) | (show (str [1] ++ str _).size + (str _).size ≤ _; rw [str_app, str_size, str_size, List.length_append, sha_len]; show 1 + 32 + _ ≤ _; omega))))
    (refine op_v (p_indexAddr_nat0 underlying35 sizeOf9 Y Y ?_) ?_; (focus (first | omega | decide | (simp; done))))
    refine Zl isAgg9 Y (hv := by exact hxx) ?_
    refine Zr [_] Y call69 Y rfl (rsum_spec _ (by omega)) ?_
    rintro _ _ ⟨rfl, rfl⟩
    (refine op_v (p_add_str Y Y ?_) ?_; (focus ((show 1 + _ ≤ _; rw [str_size, sha_len]; omega))))
    refine Zm Y ?_
    (refine op_v (p_add_str Y Y ?_) ?_; (focus ((show (str [1] ++ str _).size + (str _).size ≤ _; rw [str_app, str_size, str_size, List.length_append, sha_len]; show 1 + 32 + _ ≤ _; omega))))
    refine Ze (w_buildSlice (vs := [_]) (cs := [_]) underlying35 sizeOf9 zeroValue9 Y rfl rfl rfl rfl rfl) ?_
    rintro _ _ ⟨g3, rfl, rfl⟩
    refine Ze (w_appendS (by_ := 16) (sz := 1) (news := [_]) underlying35 (rfl : Tryz.prog.info? 9 = some Tryz.t9) rfl rfl rfl rfl Y hwp Y (by repeat (first | exact One.here _ _ | apply One.there)) (by repeat (first | exact Has.here _ | apply Has.there)) (by rfl) rfl (by simp [Value.oneCell']) (by decide) (by omega) (by omega)) ?_
    rintro _ _ ⟨sw6, hrw6, rfl⟩
    obtain ⟨gw6, cw6, rfl⟩ := hrw6.form
    refine Za Y <| Z0 <| Zn [8] ?_
    refine Zx <| at_ret <| Zt ?_
    refine nx_end1 rfl results71 Y (by exact ⟨_, rowS_eq hrw6 (by rw [hrv, path_first h9 hik, List.length_append]; rfl) (by rw [hrv, path_first h9 hik, List.map_append, List.map_singleton]; unfold strV; rw [show (⟨#[1]⟩ : ByteArray) = str [1] from rfl, str_app, str_app]; rfl), rfl⟩)
   ·
    refine at_skip <| Zx <| Zq <| Zg <| Zm Y <| Zm Y <| Zm Y <| Yb Y Y <| Zm Y <| Zm Y <| Yb Y Y <| Zm Y <| Zc [_, _, _, _] Y call71 Y rfl (IH (ls := ls.take (ls.length - 1)) (n - leftN n) (i - leftN n) (by rw [List.length_take]; omega) (by exact hvt) (by rw [List.length_take]; omega) (fun s h => hs s (List.mem_of_mem_take h)) (by omega) (by omega)) ?_
    rintro _ _ ⟨_, ⟨sp, hwp, rfl⟩, rfl⟩
    obtain ⟨qp, cp, rfl⟩ := hwp.form
    have hpl := path_len (ls.take (ls.length - 1)).reverse e (n - leftN n) (i - leftN n)
    rw [List.length_reverse, List.length_take] at hpl
    have hla := lastD_at hpl.1
    have hlo := path_ok (ls.take (ls.length - 1)).reverse e (n - leftN n) (i - leftN n) 1099511627033 (by omega) (fun x h => by have := hs x (List.mem_of_mem_take (List.mem_reverse.1 h)); omega) _ (List.mem_of_getElem? hla)
    obtain ⟨gx, capx, curx, zx, hvx, rfl, hlex, hgx⟩ := rowS_get hwp hpl.1
    injection hvx with e1 e2 e3
    subst e1 e3
    have hxx := hgx _ (strV _) (by rw [List.getElem?_map, hla]; rfl)
    refine Za Y <| Z0 <| Zn [10, 13] ?_
    refine Zx <| Zq <| Zg <| Zm Y <| Zm Y ?_
    (refine op_v (p_add_str Y Y ?_) ?_; (focus ((show 1 + _ ≤ _; rw [str_size]; omega))))
    refine Zm Y <| Zm Y <| Zv (p_len_slice underlying35 Y) ?_
    (refine op_v (p_sub_nat (n := 1) Y Y ?_ ?_) ?_; (focus (first | omega | (show 1 + _ ≤ _; rw [str_size]; omega) | (show (str [1] ++ str _).size + (str _).size ≤ _; rw [str_app, str_size, str_size, List.length_append, sha_len]; show 1 + _ + 32 ≤ _; omega))); (focus (first | omega | (show 1 + _ ≤ _; rw [str_size]; omega) | (show (str [1] ++ str _).size + (str _).size ≤ _; rw [str_app, str_size, str_size, List.length_append, sha_len]; show 1 + _ + 32 ≤ _; omega))))
    (refine op_v (p_indexAddr_nat0 underlying35 sizeOf9 Y Y ?_) ?_; (focus (first | omega | decide | (simp; done))))
    refine Zl isAgg9 Y (hv := by exact hxx) ?_
    refine Zr [_] Y call69 Y rfl (rsum_spec _ (by omega)) ?_
    rintro _ _ ⟨rfl, rfl⟩
    (refine op_v (p_add_str Y Y ?_) ?_; (focus ((show (str [1] ++ str _).size + (str _).size ≤ _; rw [str_app, str_size, str_size, List.length_append, sha_len]; show 1 + _ + 32 ≤ _; omega))))
    refine Ze (w_buildSlice (vs := [_]) (cs := [_]) underlying35 sizeOf9 zeroValue9 Y rfl rfl rfl rfl rfl) ?_
    rintro _ _ ⟨g3, rfl, rfl⟩
    refine Ze (w_appendS (by_ := 16) (sz := 1) (news := [_]) underlying35 (rfl : Tryz.prog.info? 9 = some Tryz.t9) rfl rfl rfl rfl Y hwp Y (by repeat (first | exact One.here _ _ | apply One.there)) (by repeat (first | exact Has.here _ | apply Has.there)) (by rfl) rfl (by simp [Value.oneCell']) (by decide) (by omega) (by omega)) ?_
    rintro _ _ ⟨sw6, hrw6, rfl⟩
    obtain ⟨gw6, cw6, rfl⟩ := hrw6.form
    refine Za Y <| Z0 <| Zn [8] ?_
    refine Zx <| at_ret ?_
    refine nx_end1 rfl results71 Y (by exact ⟨_, rowS_eq hrw6 (by rw [hrv, path_second h9 hik, List.length_append]; rfl) (by rw [hrv, path_second h9 hik, List.map_append, List.map_singleton]; unfold strV; rw [show (⟨#[1]⟩ : ByteArray) = str [1] from rfl, str_app, str_app]; rfl), rfl⟩)

theorem r10_path (e : Bs) : ∀ (m : Nat) {M : List Chunk} {v : Value} {ls : List Bs} (n i : Nat), ls.length ≤ m → StrsU M v ls → ls.length ≤ 1000000 → (∀ s ∈ ls, s.length ≤ 1099511627000) → e.length ≤ 1099511627000 → n ≤ 1000000 → i ≤ 1000000 → Does Tryz.prog 71 #[.string (str e), .int .i64 (n : Int), .int .i64 (i : Int), v] [M] (fun r H' => ∃ so, RowS 1 9 r (pathR e n i ls.reverse).length ((pathR e n i ls.reverse).map strV) so ∧ H' = [so, M])
  | 0, _, _, ls, n, i, h, hv, hm, hs, he, hn, hi => r10_path_step ls.length e (fun _ _ h9 => absurd h9 (by omega)) n i rfl hv hm hs he hn hi
  | m + 1, _, _, ls, n, i, h, hv, hm, hs, he, hn, hi => r10_path_step ls.length e (fun n2 i2 h9 hv2 hm2 hs2 hn2 hi2 => r10_path e m n2 i2 (by omega) hv2 hm2 hs2 he hn2 hi2) n i rfl hv hm hs he hn hi

theorem r10_pathI (e : Bs) {M : List Chunk} {v : Value} {ls : List Bs} (n i : Int) (hv : StrsU M v ls) (hm : ls.length ≤ 1000000) (hs : ∀ s ∈ ls, s.length ≤ 1099511627000) (he : e.length ≤ 1099511627000) (hn : 0 ≤ n ∧ n ≤ 1000000) (hi : 0 ≤ i ∧ i ≤ 1000000) : Does Tryz.prog 71 #[.string (str e), .int .i64 n, .int .i64 i, v] [M] (fun r H' => ∃ so, RowS 1 9 r (pathR e n.toNat i.toNat ls.reverse).length ((pathR e n.toNat i.toNat ls.reverse).map strV) so ∧ H' = [so, M]) := by
  obtain ⟨n, rfl⟩ := nat_of hn.1
  obtain ⟨i, rfl⟩ := nat_of hi.1
  exact r10_path e ls.length n i (Nat.le_refl _) hv hm hs he (by omega) (by omega)
/-- What is computed for the roots and the first k rows of a proof. -/
def accC (x : RP) (k : Nat) : List Bs := (hashedT x.roots ++ [[]]) ++ (List.range k).flatMap (pathC x)
theorem accC_zero (x : RP) : accC x 0 = hashedT x.roots ++ [[]] := by unfold accC; simp
theorem accC_next (x : RP) (k : Nat) : accC x (k + 1) = accC x k ++ pathC x k := by
  unfold accC
  rw [List.range_succ, List.flatMap_append, List.append_assoc]; simp
theorem accC_len {x : RP} (hp : ∀ l ∈ x.paths, l.length ≤ 1000000) : ∀ k, (accC x k).length ≤ 2 * x.roots.length + 2 + 1000001 * k
  | 0 => by
    have := (hashed_len _ x.roots (Nat.le_refl _)).1
    rw [accC_zero, List.length_append, List.length_singleton]; omega
  | k + 1 => by
    have ih := accC_len hp k
    rw [accC_next, List.length_append]
    have : (pathC x k).length ≤ 1000001 := by
      unfold pathC
      split
      · rename_i r pf hr hpf
        have h1 := (path_len pf.reverse (encRow r) x.ct.toNat (x.fi.toNat + k)).2
        have h2 := hp pf (List.mem_of_getElem? hpf)
        rw [List.length_reverse] at h1
        omega
      · simp
    omega
theorem ver_paths {root : Bs} {x : RP} (h : VerP root x) : ∀ l ∈ x.paths, ∀ s ∈ l, s.length = 32 := by
  intro l hl
  obtain ⟨k, hk⟩ := List.getElem?_of_mem hl
  have hkl := (List.getElem?_eq_some_iff.1 hk).1
  have hn := h.comp.n
  have hf := h.comp.fi
  have hnp := h.np
  obtain ⟨d, _, _, _, hv⟩ := h.sum
  have hv1 := hv (by omega) k _ l (List.getElem?_eq_getElem (by rw [← hnp]; exact hkl)) hk
  unfold verT at hv1
  rw [Bool.and_eq_true, Bool.not_eq_true'] at hv1
  exact odd_all hv1.1
theorem computed_ok {x : RP} (hc : Comp x) (hsr : ∀ s ∈ x.roots, s.length ≤ 1000) (hsp : ∀ l ∈ x.paths, ∀ s ∈ l, s.length = 32) : ∀ s ∈ computedT x, s.length ≤ 1099511627000 := by
  intro s hs
  rcases List.mem_append.1 hs with h | h
  · rcases List.mem_append.1 h with h | h
    · have := hashed_ok _ x.roots 1001 (Nat.le_refl _) (by decide) (fun y hy => by have := hsr y hy; omega) s h
      omega
    · rw [List.mem_singleton.1 h]; simp
  · obtain ⟨k, _, h⟩ := List.mem_flatMap.1 h
    unfold pathC at h
    split at h
    · rename_i r pf hr hpf
      have h1 := encRow_len (hc.all k r hr).1.1
      have := path_ok pf.reverse (encRow r) x.ct.toNat (x.fi.toNat + k) 1000 (by omega) (fun y hy => by have := hsp pf (List.mem_of_getElem? hpf) y (List.mem_reverse.1 hy); omega) s h
      omega
    · simp at h
theorem computed_len {x : RP} (hp : ∀ l ∈ x.paths, l.length ≤ 1000000) (hr : x.roots.length ≤ 1000) (hn : x.rows.length ≤ 2000) : (computedT x).length ≤ 10000000000 := by
  have := accC_len hp (min x.rows.length x.paths.length)
  unfold accC at this
  unfold computedT
  omega

theorem r10_computed {M : List Chunk} {v : Value} {x : RP} (hv : RPIn M v x) (hc : Comp x) (hnt : x.roots.length ≤ 1000) (hsr : ∀ s ∈ x.roots, s.length ≤ 1000) (hp : ∀ l ∈ x.paths, l.length ≤ 1000000) (hsp : ∀ l ∈ x.paths, ∀ s ∈ l, s.length = 32) : Does Tryz.prog 27 #[v] [M] (fun r H' => ∃ so, RowS 1 9 r (computedT x).length ((computedT x).map strV) so ∧ H' = [so, M]) := by
 have hml : maxLen = 9223372036854775807 := rfl
 obtain ⟨vr, vp, vt, rfl, hR, hP, hT⟩ := id hv
 obtain ⟨q1, c1, rfl, hl1, hg1⟩ := id hR
 obtain ⟨q2, c2, rfl, hl2, hg2⟩ := id hP
 obtain ⟨q3, c3, rfl, hl3, hg3⟩ := id hT
 have hcn := hc.n
 have hcf := hc.fi
 have hcc := hc.ct
 have hrn : x.rows.length ≤ 2000 := by omega
 refine spec_enter func27 rfl ntmps27 rfl ?_
 intro u R
 refine Zb [0] ?_
 refine Zq <| Zg <| Ze (w_box Y (cs := #[_, _, _, _, _, _, _, _, _]) rfl) ?_
 rintro _ _ ⟨pb, rfl, rfl⟩
 refine Za Y <| Z0 <| Zx <| Zq <| Zg <| Zh 8 underlying37 rfl rfl sizeOf35 Y <| Zl isAgg35 Y ?_
 refine Zc [_] Y call70 Y rfl (r10_hashed _ (Nat.le_refl _) hT (by omega) (fun s h => by have := hsr s h; omega)) ?_
 rintro _ _ ⟨_, ⟨sh, hh0, rfl⟩, rfl⟩
 have hhl := (hashed_len _ x.roots (Nat.le_refl _)).1
 obtain ⟨qh, ch, rfl⟩ := hh0.form
 refine Za Y <| Z0 <| Zx <| Zq <| Zg <| Zm Y <| Ze (w_buildSlice (vs := [_]) (cs := [_]) underlying35 sizeOf9 zeroValue9 Y rfl rfl rfl rfl rfl) ?_
 rintro _ _ ⟨g1, rfl, rfl⟩
 refine Ze (w_append_subS (by_ := 16) (sz := 1) underlying35 (rfl : Tryz.prog.info? 9 = some Tryz.t9) rfl rfl rfl rfl Y (hh0) Y (subS_new 1 g1 1 1 9 (0, 0) [strV []] rfl) (by repeat (first | exact One.here _ _ | apply One.there)) (by repeat (first | exact One.here _ _ | apply One.there)) (by simp [strV, Value.oneCell']) (by omega) (by omega)) ?_
 rintro _ _ ⟨sw0, hrw0, rfl⟩
 replace hrw0 := rowS_eq (n' := (accC x 0).length) (xs' := (accC x 0).map strV) hrw0 (by rw [accC_zero, List.length_append]; rfl) (by rw [accC_zero, List.map_append]; rfl)
 obtain ⟨gw0, cw0, rfl⟩ := hrw0.form
 refine Za Y <| Z0 <| Zx <| Zq <| Zq <| Zg <| Za Y <| Z0 <| Zx <| at_block <| Zb [3, 4, 1] ?_
 refine at_loopB (e0 := [(3, _), (4, _)]) (H0 := _) (n := _) (fun m e H => ∃ (k : Nat) (vo : Value) (so : List Chunk), m = x.rows.length - k ∧ ((k ≤ x.rows.length ∧ k ≤ x.paths.length) ∧ RowS 1 9 vo (accC x k).length ((accC x k).map strV) so) ∧ e = [(3, vo), (4, .int .i64 (k : Int))] ∧ H = [so]) (by exact ⟨0, _, sw0, rfl, ⟨⟨Nat.zero_le _, Nat.zero_le _⟩, hrw0⟩, rfl, rfl⟩) (by repeat (first | exact Pull.nil _ | (apply Pull.cons; (focus (repeat (first | exact One.here _ _ | apply One.there)))))) ?_
 rintro _ _ _ ⟨k, vo, so, rfl, ⟨hk, hro⟩, rfl, rfl⟩
 obtain ⟨qo, co, rfl⟩ := hro.form
 have hal := accC_len hp k
 refine Zq <| Zq <| Zg <| Zm Y <| Zh 6 underlying37 rfl rfl sizeOf33 Y <| Zl isAgg33 Y ?_
 refine Zv (p_len_slice underlying33 Y) <| Zv (p_lss_nat Y Y) <| Zm Y ?_
 refine ops_split (t := 18) Y rfl (fun hk1 => ?_) (fun hk1 => ?_)
 ·
  refine Zf Y Y <| Yf 7 underlying37 rfl rfl sizeOf34 Y <| Yl isAgg34 Y ?_
  refine Yg (p_len_slice underlying34 Y) <| Yg (p_lss_nat Y Y) <| Zv (p_pick_t Y Y) <| Z0 <| Zx ?_
  refine at_if Y (fun hk2 => ?_) (fun hk2 => ?_)
  ·
   obtain ⟨r, hr⟩ : ∃ r, x.rows[k]? = some r := ⟨_, List.getElem?_eq_getElem (by omega)⟩
   obtain ⟨pf, hpf⟩ : ∃ r, x.paths[k]? = some r := ⟨_, List.getElem?_eq_getElem (by omega)⟩
   obtain ⟨g, off, cur, T, zz, rfl, hm9, hsz9, hex9⟩ := hg1 k r hr
   obtain ⟨qp, cp, hUp, g2, off2, cur2, T2, zz2, rfl, hm2, hex2⟩ := hg2 k pf hpf
   have hrok := (hc.all k r hr).1.1
   have hel := encRow_len hrok
   have hpfm := List.mem_of_getElem? hpf
   have hpl := path_len pf.reverse (encRow r) x.ct.toNat (x.fi.toNat + k)
   rw [List.length_reverse] at hpl
   have hpb := hp pf hpfm
   refine at_skip <| Zx <| Zq <| at_block <| Zq <| Zg <| Zh 6 underlying37 rfl rfl sizeOf33 Y <| Zl isAgg33 Y ?_
   refine Zm Y ?_
   (refine op_v (p_indexAddr_nat underlying33 sizeOf74 Y Y ?_) ?_; (focus (first | omega | decide | (simp; done))))
   refine op_rm (cs := [(g, .cells cur T zz)]) (by simp [hm9]) (p_load_agg (cs := #[.int .i64 r.t, .int .i64 r.k, .int .i64 r.v.a, .int .i64 r.v.b, .int .i64 r.v.c]) isAgg74 sizeOf74 Y (by omega) hex9) rfl rfl ?_
   refine Zr [_] Y call65 Y rfl (r3_encode r hrok) ?_
   rintro _ _ ⟨rfl, rfl⟩
   refine Zm Y <| Zd Y rfl <| Zd Y rfl <| Za Y <| Za Y <| Z0 <| Zn [1, 3, 4, 5] ?_
   refine Zx <| at_draw (n := 16) (0 :: 0 :: 0 :: 4 :: 0 :: 16 :: 0 :: 112 :: 0 :: 256 :: 0 :: 1792 :: 3840 :: 8190 :: 16383 :: 32767 :: []) 24576 (by kernel_rfl) (by kernel_rfl) rfl ?_
   refine Zi 1 0 rfl (p_move Y) <| Zi 3 1 rfl (p_move Y) <| Zi 7 2 rfl (p_fieldAddr0 (off := 4) underlying37 rfl rfl sizeOf3 Y) <| Zj 15 3 rfl isAgg3 Y ?_
   refine Zi 31 4 rfl (p_fieldAddr0 (off := 5) underlying37 rfl rfl sizeOf3 Y) <| Zj 63 5 rfl isAgg3 Y ?_
   refine Zi 127 6 rfl (p_move Y) ?_
   (refine lin_v (D' := 255) 7 (p_add Y Y (IntWalk.i64_in _ ?_)) ?_; (focus (omega)))
   refine Zi 511 8 rfl (p_fieldAddr0 (off := 7) underlying37 rfl rfl sizeOf34 Y) <| Zj 1023 9 rfl isAgg34 Y ?_
   refine Zi 2047 10 rfl (p_move Y) ?_
   (refine lin_v (D' := 4095) 11 (p_indexAddr_nat1 underlying34 sizeOf35 Y Y ?_) ?_; (focus (first | omega | decide | (simp; done))))
   refine lin_rm (b := g2) (x := .cells cur2 T2 zz2) (D' := 8191) 12 rfl rfl rfl (by simp [hm2]) (p_load isAgg35 Y (by exact hex2)) ?_
   refine Zz (l := [13]) ?_
   refine Zy 8190 16383 [12, 9, 5, 3] [false, false, false, false] [] rfl Y rfl rfl rfl rfl (Zw [_, _, _, _] Y call71 Y rfl ((by have h9 := r10_pathI (encRow r) x.ct (x.fi + (k : Int)) hUp hpb (fun s h => by have := hsp pf hpfm s h; omega) (by omega) (by omega) (by omega); rw [show (x.fi + (k : Int)).toNat = x.fi.toNat + k by omega] at h9; exact h9))) ?hk_2 no_pan ?hl_2
   case hk_2 =>
    rintro _ _ ⟨_, ⟨sp, hwp, rfl⟩, rfl⟩
    refine ⟨keep_nil, ?_⟩
    obtain ⟨qw, cw, rfl⟩ := hwp.form
    refine Zz (l := [14]) ?_
    refine Zy 16383 32767 [] [] [] rfl Y rfl rfl rfl rfl (w_append_subS (by_ := 16) (sz := 1) underlying35 (rfl : Tryz.prog.info? 9 = some Tryz.t9) rfl rfl rfl rfl Y (hro) Y (subS_of hwp) (by repeat (first | exact One.here _ _ | apply One.there)) (by repeat (first | exact One.here _ _ | apply One.there)) (by exact strV_one _) (by omega) (by omega)) ?hk_3 (fun _ _ h => h.elim) ?hl_3
    case hk_3 =>
     rintro _ _ ⟨sw5, hrw5, rfl⟩
     refine ⟨keep_nil, ?_⟩
     obtain ⟨gw5, cw5, rfl⟩ := hrw5.form
     refine Zi 65535 15 rfl (p_assign Y) <| lin_nil ?_
     refine Zn [1, 3, 4] ?_
     refine nx_block_normal <| Zx <| Zg <| Zm Y <| Ya (n := 1) Y Y <| Za Y <| Z0 <| Zn [3, 4, 1] ?_
     refine nx_againB (e' := [(3, _), (4, _)]) (m := _) (H' := _) (by exact ⟨k + 1, _, _, rfl, ⟨by omega, rowS_eq hrw5 (by rw [accC_next, pathC_at hr hpf, List.length_append]) (by rw [accC_next, pathC_at hr hpf, List.map_append])⟩, rfl, rfl⟩)
    case hl_3 =>
     exact each_nil
   case hl_2 =>
    exact each_nil
  ·
   refine at_exit <| Zt <| Zt <| nx_block_exit <| Zx <| Zq <| Zg <| Zm Y <| Za Y <| Z0 <| Zn [2] ?_
   refine Zx <| at_ret ?_
   refine nx_end1 rfl results27 Y (by
         have hkm : min x.rows.length x.paths.length = k := by omega
         have hfin : accC x k = computedT x := by rw [← hkm]; rfl
         exact ⟨so, by rw [← hfin]; exact hro, rfl⟩)
 ·
  refine op_skip Y rfl <| op_skip Y rfl <| op_skip Y rfl <| op_skip Y rfl <| op_skip Y rfl <| Zv (p_pick_f Y Y) <| Z0 <| Zx <| at_else Y <| at_exit <| Zt <| Zt <| nx_block_exit <| Zx <| Zq <| Zg <| Zm Y <| Za Y <| Z0 <| Zn [2] ?_
  refine Zx <| at_ret ?_
  refine nx_end1 rfl results27 Y (by
        have hkm : min x.rows.length x.paths.length = k := by omega
        have hfin : accC x k = computedT x := by rw [← hkm]; rfl
        exact ⟨so, by rw [← hfin]; exact hro, rfl⟩)

end Go.Proofs.YtjeepldonhgohaaGreatDoor


namespace Go.Proofs.YtjeepldonhgohaaGreatDoor
open Go.Proofs.Tryz
open Go Go.RowKit Gw
set_option linter.unusedVariables false
set_option linter.unusedSimpArgs false
set_option maxRecDepth 100000
attribute [local irreducible] Gw.At Gw.Nx Gw.Ops
theorem DamB.mono {x : RP} {B B' : Int} (h : DamB x B) (hb : B ≤ B') : DamB x B' := by
  obtain ⟨h1, h2, h3, h4, h5⟩ := h
  exact ⟨by omega, by omega, by omega, by omega, fun r hr => by have := h5 r hr; omega⟩
/-- What every damage keeps. -/
structure DamI (x : RP) (B : Int) : Prop where
  np : x.paths.length = x.rows.length
  nr : x.rows.length ≤ 2000
  nt : x.roots.length = 16
  sr : ∀ s ∈ x.roots, s.length ≤ 1000
  sp : ∀ l ∈ x.paths, l.length ≤ 1000000
  b : DamB x B
theorem swap_len {α : Type} (l : List α) (k : Nat) : (swapL l k).length = l.length := by
  unfold swapL
  split
  · rw [List.length_set, List.length_set]
  · rfl
theorem swap_mem {α : Type} {l : List α} {k : Nat} {y : α} (h : y ∈ swapL l k) : y ∈ l := by
  unfold swapL at h
  split at h
  · rename_i a b ha hb
    rcases List.mem_or_eq_of_mem_set h with h | h
    · rcases List.mem_or_eq_of_mem_set h with h | h
      · exact h
      · rw [h]; exact List.mem_of_getElem? hb
    · rw [h]; exact List.mem_of_getElem? ha
  · exact h
theorem damI_step {x : RP} {B : Int} (h : DamI x B) (a b c : Int) : DamI (damT x a b c) (B + 10) := by
  have hj := pickN_lt a 12 (by decide)
  have hc5 := pickN_lt c 5 (by decide)
  have hk := pickN_lt b (max x.rows.length 1) (by omega)
  have hI := h
  obtain ⟨np, nr, nt, sr, sp, hb⟩ := h
  have hb' : DamB x (B + 10) := hb.mono (by omega)
  obtain ⟨b1, b2, b3, b4, b5⟩ := hb
  match h9 : pickN a 12, hj with
  | 0, _ => rw [dam_at0 h9]; exact ⟨np, nr, nt, sr, sp, ⟨hb'.lo, hb'.hi, hb'.ct, by simp only; omega, hb'.row⟩⟩
  | 1, _ => rw [dam_at1 h9]; exact ⟨np, nr, nt, sr, sp, ⟨hb'.lo, hb'.hi, by simp only; omega, hb'.fi, hb'.row⟩⟩
  | 2, _ => rw [dam_at2 h9]; exact ⟨np, nr, nt, sr, sp, ⟨by simp only; omega, hb'.hi, hb'.ct, hb'.fi, hb'.row⟩⟩
  | 3, _ => rw [dam_at3 h9]; exact ⟨np, nr, nt, sr, sp, ⟨hb'.lo, by simp only; omega, hb'.ct, hb'.fi, hb'.row⟩⟩
  | 4, _ =>
    rcases hr : x.rows[pickN b (max x.rows.length 1)]? with _ | r
    · have := List.getElem?_eq_none_iff.1 hr
      rw [dam_no4 h9 (by omega)]
      exact ⟨np, nr, nt, sr, sp, hb'⟩
    · rw [dam_at4 h9 hr]
      refine ⟨by simp only [List.length_set]; exact np, by simp only [List.length_set]; exact nr, nt, sr, sp, ⟨hb'.lo, hb'.hi, hb'.ct, hb'.fi, fun q hq => ?_⟩⟩
      rcases List.mem_or_eq_of_mem_set hq with h | h
      · exact hb'.row q h
      · have := b5 r (List.mem_of_getElem? hr)
        rw [h]; unfold bumpV; simp only
        refine ⟨?_, ?_, ?_⟩ <;> split <;> omega
  | 5, _ =>
    rw [dam_at5 h9]
    exact ⟨by simp only [List.length_eraseIdx, np], by simp only [List.length_eraseIdx]; split <;> omega, nt, sr, fun l hl => sp l (List.mem_of_mem_eraseIdx hl), ⟨hb'.lo, hb'.hi, hb'.ct, hb'.fi, fun r hr => hb'.row r (List.mem_of_mem_eraseIdx hr)⟩⟩
  | 6, _ =>
    rw [dam_at6 h9]
    exact ⟨by simp only [swap_len, np], by simp only [swap_len]; exact nr, nt, sr, fun l hl => sp l (swap_mem hl), ⟨hb'.lo, hb'.hi, hb'.ct, hb'.fi, fun r hr => hb'.row r (swap_mem hr)⟩⟩
  | 7, _ =>
    rcases hr : x.paths[pickN b (max x.rows.length 1)]? with _ | l
    · have := List.getElem?_eq_none_iff.1 hr
      rw [dam_no7 h9 np (.inl (by omega))]
      exact ⟨np, nr, nt, sr, sp, hb'⟩
    · rw [dam_at7 h9 hr]
      refine ⟨by simp only [List.length_set]; exact np, nr, nt, sr, fun m hm => ?_, ⟨hb'.lo, hb'.hi, hb'.ct, hb'.fi, hb'.row⟩⟩
      rcases List.mem_or_eq_of_mem_set hm with h | h
      · exact sp m h
      · rw [h, List.length_set]; exact sp l (List.mem_of_getElem? hr)
  | 8, _ =>
    rw [dam_at8 h9]
    refine ⟨np, nr, by simp only [List.length_set]; exact nt, fun s hs => ?_, sp, ⟨hb'.lo, hb'.hi, hb'.ct, hb'.fi, hb'.row⟩⟩
    rcases List.mem_or_eq_of_mem_set hs with h | h
    · exact sr s h
    · rw [h, sha_len]; decide
  | 9, _ => rw [dam_at9 h9]; exact ⟨np, nr, nt, sr, sp, ⟨hb'.lo, hb'.hi, hb'.ct, hb'.fi, hb'.row⟩⟩
  | 10, _ => rw [dam_at10 h9]; exact ⟨rfl, by simp, nt, sr, by simp, ⟨hb'.lo, hb'.hi, by simp only; omega, by simp only; omega, by simp⟩⟩
  | 11, _ => rw [dam_at11 h9]; exact ⟨np, nr, nt, sr, sp, hb'⟩
theorem prove_damI {rs : List RowM} (hs : SortedR rs) (hn : rs.length ≤ 2000) (hok : ∀ r ∈ rs, r.ok) (t c : Nat) (lo hi : Int) (hlh : lo ≤ hi) (hlo : -1000000000 ≤ lo) (hhi : hi ≤ 1000000000) : DamI (proveT rs t c lo hi) 1000000000 := by
  have h1 := prove_len hs t c lo hi hlh
  have h2 := prove_nums hs t c lo hi hlh
  have h3 := ordL_len hs (t : Int) c
  refine ⟨by rw [h1]; exact pathsT_len _ _ _, by omega, sumL_len rs, fun s hss => ?_, prove_paths hs hn t c lo hi, ⟨?_, ?_, ?_, ?_, fun r hr => ?_⟩⟩
  · obtain ⟨x, _, rfl⟩ := List.mem_map.1 hss
    have := summ_len hs hn x; omega
  · show -1000000000 ≤ lo ∧ lo ≤ 1000000000; omega
  · show -1000000000 ≤ hi ∧ hi ≤ 1000000000; omega
  · show (-1000000000 : Int) ≤ ((ordL rs (t : Int) c).length : Nat) ∧ (((ordL rs (t : Int) c).length : Nat) : Int) ≤ 1000000000; omega
  · show (-1000000000 : Int) ≤ ((fromT (ordL rs (t : Int) c) c lo : Nat) : Int) ∧ ((fromT (ordL rs (t : Int) c) c lo : Nat) : Int) ≤ 1000000000
    have := first_le (geV c lo) (ordL rs (t : Int) c)
    unfold fromT; omega
  · have hm := (ord_mem (List.mem_of_mem_drop (List.mem_of_mem_take hr))).1
    obtain ⟨_, ⟨⟨q1, q2, q3⟩, q4, q5⟩⟩ := And.intro hm (hok r hm)
    unfold inV at q1 q2 q3
    omega
theorem damaged_spec {M : List Chunk} {v : Value} {x : RP} (hv : RPIn M v x) {B : Int} (hI : DamI x B) (hB : B ≤ 4000000000000000000) (a b c : Int) (ha1 : -9223372036854775808 ≤ a) (ha2 : a ≤ 9223372036854775807) (hb1 : -9223372036854775808 ≤ b) (hb2 : b ≤ 9223372036854775807) (hc1 : -9223372036854775808 ≤ c) (hc2 : c ≤ 9223372036854775807) (Tg : TypeId) (zg : Nat × Nat) :
    Does Tryz.prog 21 #[v, .agg #[.int .i64 a, .int .i64 b, .int .i64 c]] [[(0, .cells (kTab.map u32v).toArray Tg zg)], M] (fun r H' => ∃ mem, RPIn mem r (damT x a b c) ∧ (∀ ch ∈ M, ch ∈ mem) ∧ H' = [mem, [(0, .cells (kTab.map u32v).toArray Tg zg)]]) := by
  refine does_re (damaged10 hv hI.np (Nat.le_trans hI.nr (by decide)) (by rw [hI.nt]; decide) (by rw [hI.nt]; decide) hI.sp hI.b hB a b c ha1 ha2 hb1 hb2 hc1 hc2 Tg zg) rfl ?_
  rintro r H' ⟨z1, z2, z3, z4, hr, rfl⟩
  refine ⟨_, ⟨_, hr, fun ch h => List.mem_append_right _ (List.mem_append_right _ (List.mem_append_right _ (List.mem_append_right _ h))), rfl⟩, ?_⟩
  simp only [List.flatten_cons, List.flatten_nil, List.append_nil, List.append_assoc]
  exact ((((List.perm_append_comm).append_left z4).append_left z3).append_left z2).append_left z1
theorem kinds (i : Nat) (h : i < 5) : ∃ kd : Int, ([.int .i64 0, .int .i64 1, .int .i64 4, .int .i64 7, .int .i64 8] : List Value).toArray[i]? = some (.int .i64 kd) ∧ (pickN kd 12 = 0 ∨ pickN kd 12 = 1 ∨ pickN kd 12 = 4 ∨ pickN kd 12 = 7 ∨ pickN kd 12 = 8) ∧ 0 ≤ kd ∧ kd ≤ 8 := by
  match i, h with
  | 0, _ => exact ⟨0, rfl, by decide, by decide, by decide⟩
  | 1, _ => exact ⟨1, rfl, by decide, by decide, by decide⟩
  | 2, _ => exact ⟨4, rfl, by decide, by decide, by decide⟩
  | 3, _ => exact ⟨7, rfl, by decide, by decide, by decide⟩
  | 4, _ => exact ⟨8, rfl, by decide, by decide, by decide⟩
end Go.Proofs.YtjeepldonhgohaaGreatDoor

namespace Go.Proofs.YtjeepldonhgohaaGreatDoor
open Go.Proofs.Tryz
open Go Go.RowKit Gw
set_option linter.unusedVariables false
set_option linter.unusedSimpArgs false
set_option maxRecDepth 100000
attribute [local irreducible] Gw.At Gw.Nx Gw.Ops
/-- An integer made not negative. -/
def absN (z : Int) : Nat := if z < 0 then (-(z + 1)).toNat else z.toNat
theorem abs_neg {z : Int} (h : z < 0) : (-(z + 1)).toNat = absN z := (if_pos h).symm
theorem abs_pos {z : Int} (h : ¬ z < 0) : z.toNat = absN z := (if_neg h).symm
def hasC (had : Bool) (m : Nat) : Bool := !had || decide (0 < m % 4)
def newV (m : Nat) : V3 := ⟨((m / 4 % 10 : Nat) : Int), ((1 + m / 40 % 9 : Nat) : Int), ((m / 400 % 40 : Nat) : Int) - 20⟩
def chgOf (gr : RowM × Bool) (n m : Nat) : Chg := ⟨((n % 3 : Nat) : Int), ((1 + n / 3 % 9 : Nat) : Int), gr.2, gr.1.v, hasC gr.2 m, if hasC gr.2 m then newV m else V3.zero⟩
def chgAt (rs : List RowM) (n m : Nat) : Chg := chgOf (getL rs ((n % 3 : Nat) : Int) ((1 + n / 3 % 9 : Nat) : Int)) n m
def sameTK (c y : Chg) : Bool := decide (y.t = c.t ∧ y.k = c.k)
def skipC (cs : List Chg) (c : Chg) (k n : Nat) : Prop := cs.any (sameTK c) = true ∨ (c.had = true ∧ c.has = true ∧ c.o = c.n) ∨ (0 < k ∧ n % 5 = 0)
instance (cs : List Chg) (c : Chg) (k n : Nat) : Decidable (skipC cs c k n) := inferInstanceAs (Decidable (_ ∨ _))
def behind (c y : Chg) : Prop := c.t < y.t ∨ y.t = c.t ∧ c.k < y.k
instance (c y : Chg) : Decidable (behind c y) := inferInstanceAs (Decidable (_ ∨ _))
def posC (cs : List Chg) (c : Chg) : Nat → Nat
  | 0 => 0
  | j + 1 => match cs[j]? with
    | some y => if behind c y then posC cs c j else j + 1
    | none => j + 1
theorem pos_step {cs : List Chg} {c y : Chg} {j : Nat} (h0 : 0 < j) (hy : cs[j - 1]? = some y) (h : behind c y) : posC cs c j = posC cs c (j - 1) := by
  obtain ⟨k, rfl⟩ : ∃ k, j = k + 1 := ⟨j - 1, by omega⟩
  rw [Nat.add_sub_cancel] at hy ⊢
  rw [posC, hy]; exact if_pos h
theorem pos_stop {cs : List Chg} {c y : Chg} {j : Nat} (h0 : 0 < j) (hy : cs[j - 1]? = some y) (h : ¬ behind c y) : posC cs c j = j := by
  obtain ⟨k, rfl⟩ : ∃ k, j = k + 1 := ⟨j - 1, by omega⟩
  rw [Nat.add_sub_cancel] at hy
  rw [posC, hy]; exact if_neg h
theorem pos_zero {cs : List Chg} {c : Chg} {j : Nat} (h0 : ¬ 0 < j) : posC cs c j = j := by
  obtain rfl : j = 0 := by omega
  rfl
noncomputable def stepC (rs : List RowM) (z : List Int) (k : Nat) (cs : List Chg) : List Chg :=
  if skipC cs (chgAt rs (absN (z.getD (2 * k) 0)) (absN (z.getD (2 * k + 1) 0))) k (absN (z.getD (2 * k) 0)) then cs
  else cs.take (posC cs (chgAt rs (absN (z.getD (2 * k) 0)) (absN (z.getD (2 * k + 1) 0))) cs.length) ++ [chgAt rs (absN (z.getD (2 * k) 0)) (absN (z.getD (2 * k + 1) 0))] ++ cs.drop (posC cs (chgAt rs (absN (z.getD (2 * k) 0)) (absN (z.getD (2 * k + 1) 0))) cs.length)
noncomputable def chgsOf (rs : List RowM) (z : List Int) : Nat → List Chg
  | 0 => []
  | k + 1 => stepC rs z k (chgsOf rs z k)
theorem at_getD {z : List Int} {i : Nat} {n : Int} (h : z[i]? = some n) : z.getD i 0 = n := by rw [List.getD_eq_getElem?_getD, h]; rfl
theorem chgs_skip {rs : List RowM} {z : List Int} {k n m : Nat} {za zb : Int} {cs : List Chg} {c : Chg} (hcs : cs = chgsOf rs z k) (ha : z[2 * k]? = some za) (hb : z[2 * k + 1]? = some zb) (hn : n = absN za) (hm : m = absN zb) (hc : c = chgAt rs n m) (h : skipC cs c k n) : cs = chgsOf rs z (k + 1) := by
  subst hn hm hc
  show _ = stepC rs z k (chgsOf rs z k)
  unfold stepC
  rw [at_getD ha, at_getD hb, ← hcs, if_pos h]
theorem chgs_put {rs : List RowM} {z : List Int} {k n m j : Nat} {za zb : Int} {cs : List Chg} {c : Chg} (hcs : cs = chgsOf rs z k) (ha : z[2 * k]? = some za) (hb : z[2 * k + 1]? = some zb) (hn : n = absN za) (hm : m = absN zb) (hc : c = chgAt rs n m) (h : ¬ skipC cs c k n) (hj : posC cs c cs.length = j) : cs.take j ++ [c] ++ cs.drop j = chgsOf rs z (k + 1) := by
  subst hn hm hc hj
  show _ = stepC rs z k (chgsOf rs z k)
  unfold stepC
  rw [at_getD ha, at_getD hb, ← hcs, if_neg h]
def rowsC (L : List (List Chg)) : List RowM := L.foldl putAllR []
theorem rowsC_of (l : List RecM) : rowsC (l.map RecM.cs) = rowsOf l := by unfold rowsC rowsOf; rw [List.foldl_map]
noncomputable instance (rs : List RowM) (p q : Int) (cs : List Chg) : Decidable (AppOk rs p q cs) := Classical.propDecidable _
noncomputable def logStep (L : List (List Chg)) (z : List Int) : List (List Chg) :=
  if AppOk (rowsC L) (L.length : Int) ((L.length : Int) + 1) (chgsOf (rowsC L) z 3) then L ++ [chgsOf (rowsC L) z 3] else L
/-- The changes of the records that integers determine. -/
noncomputable def logF (xs : List (List Int)) : List (List Chg) := xs.foldl logStep []
theorem logF_snoc {xs : List (List Int)} {i : Nat} {z : List Int} (hz : xs[i]? = some z) : logF (xs.take (i + 1)) = logStep (logF (xs.take i)) z := by
  unfold logF
  rw [List.take_add_one, hz, List.foldl_append]; rfl
theorem log_yes {xs : List (List Int)} {i : Nat} {z : List Int} {rcs : List RecM} {r : RecM} (hz : xs[i]? = some z) (hl : rcs.map RecM.cs = logF (xs.take i)) (hc : r.cs = chgsOf (rowsOf rcs) z 3) (h : AppOk (rowsOf rcs) (rcs.length : Int) ((rcs.length : Int) + 1) r.cs) : (rcs ++ [r]).map RecM.cs = logF (xs.take (i + 1)) := by
  rw [logF_snoc hz, ← hl]
  unfold logStep
  rw [rowsC_of, List.length_map, ← hc, if_pos h, List.map_append]; rfl
theorem log_no {xs : List (List Int)} {i : Nat} {z : List Int} {rcs : List RecM} {cs : List Chg} (hz : xs[i]? = some z) (hl : rcs.map RecM.cs = logF (xs.take i)) (hc : cs = chgsOf (rowsOf rcs) z 3) (h : ¬ AppOk (rowsOf rcs) (rcs.length : Int) ((rcs.length : Int) + 1) cs) : rcs.map RecM.cs = logF (xs.take (i + 1)) := by
  rw [logF_snoc hz, ← hl]
  unfold logStep
  rw [rowsC_of, List.length_map, ← hc, if_neg h]
theorem any_tk {cs : List Chg} {p : Chg → Bool} {i : Nat} {x : Chg} (hx : cs[i]? = some x) : (cs.take (i + 1)).any p = ((cs.take i).any p || p x) := by
  rw [List.take_add_one, hx, List.any_append]; simp
theorem any_one {cs : List Chg} {p : Chg → Bool} {i : Nat} {x : Chg} {b b' : Bool} (hx : cs[i]? = some x) (hb : b = (cs.take i).any p) (h : b' = (b || p x)) : b' = (cs.take (i + 1)).any p := by
  rw [any_tk hx, ← hb, h]

end Go.Proofs.YtjeepldonhgohaaGreatDoor
