/- The references: Proof of a list; Root of a state. -/
import Derived.Test.YtjeepldonhgohaaGreatDoorEz
import Derived.Test.YtjeepldonhgohaaGreatDoorRt1
import Derived.Test.YtjeepldonhgohaaGreatDoorTr8

namespace Go.Proofs.YtjeepldonhgohaaGreatDoor
open Go.Proofs.Tryz
open Go Go.RowKit Gw
set_option linter.unusedVariables false
set_option linter.unusedSimpArgs false
set_option maxRecDepth 100000
attribute [local irreducible] Gw.At Gw.Nx Gw.Ops
theorem proof_len_le : ∀ (n : Nat) (l : List Bs) (i : Nat), l.length ≤ n → (proofT l i).length ≤ l.length
  | n, l, i, hn => by
    rcases Nat.lt_or_ge l.length 2 with h | h
    · rw [proof_one (by omega)]; simp
    · have h1 := left_lt h
      have h2 := left_pos l.length
      match n, hn with
      | 0, hn => omega
      | n + 1, hn =>
        by_cases hi : i < leftN l.length
        · have a1 := proof_len_le n (l.take (leftN l.length)) i (by rw [List.length_take]; omega)
          rw [List.length_take] at a1
          rw [proof_first h hi, List.length_append, List.length_singleton]; omega
        · have a1 := proof_len_le n (l.drop (leftN l.length)) (i - leftN l.length) (by rw [List.length_drop]; omega)
          rw [List.length_drop] at a1
          rw [proof_second h hi, List.length_append, List.length_singleton]; omega

theorem r2_proof_step (n : Nat) (IH : ∀ {M : List Chunk} {v : Value} {ls : List Bs} (i : Nat), i < ls.length → ls.length < n → StrsU M v ls → ls.length ≤ 1000000 → (∀ s ∈ ls, s.length ≤ 1099511627000) → Does Tryz.prog 49 #[v, .int .i64 (i : Int)] [M] (fun r H' => ∃ vp sp, r = .tuple #[vp, .int .i64 0] ∧ RowS 1 9 vp (proofT ls i).length ((proofT ls i).map strV) sp ∧ H' = [sp, M])) {M : List Chunk} {v : Value} {ls : List Bs} (i : Nat) (hi9 : i < ls.length) (hl9 : ls.length = n) (hv : StrsU M v ls) (hn : ls.length ≤ 1000000) (hs : ∀ s ∈ ls, s.length ≤ 1099511627000) : Does Tryz.prog 49 #[v, .int .i64 (i : Int)] [M] (fun r H' => ∃ vp sp, r = .tuple #[vp, .int .i64 0] ∧ RowS 1 9 vp (proofT ls i).length ((proofT ls i).map strV) sp ∧ H' = [sp, M]) := by
 have hml : maxLen = 9223372036854775807 := rfl
 obtain ⟨p, cap, rfl, hl, hg⟩ := id hv
 refine spec_enter func49 rfl ntmps49 rfl ?_
 intro u R
 refine Zb [0, 1] ?_
 refine Zq <| Zg <| Za Y <| Za Y <| Z0 <| Zx <| Zq <| Zq <| Zg <| Zm Y <| Zv (p_lss_nat (n := 0) Y Y) <| Zm Y ?_
 refine ops_split (t := 13) Y rfl (fun k1 => ?_) (fun k1 => ?_)
 ·
  exfalso; omega
 ·
  refine Zf Y Y <| Zf Y Y <| op_wg Y (p_len_slice underlying35 Y) rfl rfl ?_
  refine op_wg Y (p_geq_nat Y Y) rfl rfl ?_
  refine Zv (p_pick_f Y Y) <| Z0 <| Zx ?_
  refine at_if Y (fun k2 => ?_) (fun k2 => ?_)
  ·
   exfalso; omega
  ·
   refine at_skip <| Zx <| Zq <| Zq <| Zg <| Zm Y <| Zv (p_len_slice underlying35 Y) <| Zv (p_eql_nat (n := 1) Y Y) <| Z0 <| Zn [0, 1, 21] ?_
   refine Zx ?_
   refine at_if Y (fun h1 => ?_) (fun h1 => ?_)
   ·
    refine Zq <| at_nil ?_
    refine Zg <| Za Y <| Za Y <| Z0 <| Zx <| at_ret <| Zt ?_
    refine nx_end2 rfl results49 Y Y (by exact ⟨_, [], rfl, by rw [proof_one (by omega)]; exact rowS_nil 1 _, rfl⟩)
   ·
    have h9 : 2 ≤ ls.length := by omega
    have hk1 := left_lt h9
    have hk2 := left_pos ls.length
    have hlt2 : (ls.take (leftN ls.length)).length = leftN ls.length := by rw [List.length_take]; omega
    have hld2 : (ls.drop (leftN ls.length)).length = ls.length - leftN ls.length := List.length_drop ..
    obtain ⟨g8, off8, cur8, T8, zz8, rfl, hm8, hc8⟩ := hg 0 _ (List.getElem?_eq_getElem (by omega))
    have hvt := hv.take (leftN ls.length) (by omega)
    have hvd := hv.drop (leftN ls.length) hk1
    have hz1 := proof_len_le _ (ls.take (leftN ls.length)) i (Nat.le_refl _)
    have hz2 := proof_len_le _ (ls.drop (leftN ls.length)) (i - leftN ls.length) (Nat.le_refl _)
    refine at_skip <| Zx <| Zq <| Zg <| Zm Y <| Zv (p_len_slice underlying35 Y) <| Zr [_] Y call82 Y rfl (r2_left ls.length h9 (by omega)) ?_
    rintro _ _ ⟨rfl, rfl⟩
    refine Za Y <| Z0 <| Zx <| Zq <| Zq <| Zg <| Zm Y <| Zm Y <| Zv (p_lss_nat Y Y) <| Z0 <| Zx ?_
    refine at_if Y (fun hik => ?_) (fun hik => ?_)
    ·
     refine Zq <| Zg <| Zm Y <| Zm Y ?_
     (refine op_v (p_slice_slice_to underlying35 sizeOf9 Y Y ?_) ?_; (focus (omega)))
     refine Zm Y <| Zc [_, _] Y call49 Y rfl (IH (ls := ls.take (leftN ls.length)) i (by rw [hlt2]; omega) (by rw [hlt2]; omega) (by exact hvt) (by rw [hlt2]; omega) (fun s h => hs s (List.mem_of_mem_take h))) ?_
     rintro _ _ ⟨_, ⟨vp, sp, rfl, hwp, rfl⟩, rfl⟩
     obtain ⟨qp, cp, rfl⟩ := hwp.form
     refine Zm Y <| Zd Y rfl <| Zd Y rfl <| Za Y <| Za Y <| Z0 <| Zn [0, 6, 7] ?_
     refine Zx <| Zq <| Zg <| Zm Y <| Zm Y <| Zm Y ?_
     (refine op_v (p_slice_slice_from1 underlying35 sizeOf9 Y Y ?_ ?_) ?_; (focus (omega)); (focus (omega)))
     refine Zr [_] Y call35 Y rfl (r2_root _ (Nat.le_refl _) (ls := ls.drop (leftN ls.length)) (by exact hvd) (by rw [List.length_drop]; omega) (fun s h => hs s (List.mem_of_mem_drop h))) ?_
     rintro _ _ ⟨rfl, rfl⟩
     refine Ze (w_buildSlice (vs := [_]) (cs := [_]) underlying35 sizeOf9 zeroValue9 Y rfl rfl rfl rfl rfl) ?_
     rintro _ _ ⟨g3, rfl, rfl⟩
     refine Ze (w_appendS (by_ := 16) (sz := 1) (news := [_]) underlying35 (rfl : Tryz.prog.info? 9 = some Tryz.t9) rfl rfl rfl rfl Y hwp Y (by repeat (first | exact One.here _ _ | apply One.there)) (by repeat (first | exact Has.here _ | apply Has.there)) (by rfl) rfl (by simp [Value.oneCell']) (by decide) (by omega) (by omega)) ?_
     rintro _ _ ⟨sw5, hrw5, rfl⟩
     obtain ⟨gw5, cw5, rfl⟩ := hrw5.form
     refine Za Y <| Za Y <| Z0 <| Zx <| at_ret <| Zt ?_
     refine nx_end2 rfl results49 Y Y (by exact ⟨_, _, rfl, rowS_eq hrw5 (by rw [proof_first h9 hik, List.length_append]; rfl) (by rw [proof_first h9 hik, List.map_append]; rfl), rfl⟩)
    ·
     refine at_skip <| Zx <| Zq <| Zg <| Zm Y <| Zm Y ?_
     (refine op_v (p_slice_slice_from1 underlying35 sizeOf9 Y Y ?_ ?_) ?_; (focus (omega)); (focus (omega)))
     refine Zm Y <| Zm Y ?_
     (refine op_v (p_sub_nat Y Y ?_ ?_) ?_; (focus (omega)); (focus (omega)))
     refine Zc [_, _] Y call49 Y rfl (IH (ls := ls.drop (leftN ls.length)) (i - leftN ls.length) (by rw [hld2]; omega) (by rw [hld2]; omega) (by exact hvd) (by rw [hld2]; omega) (fun s h => hs s (List.mem_of_mem_drop h))) ?_
     rintro _ _ ⟨_, ⟨vp, sp, rfl, hwp, rfl⟩, rfl⟩
     obtain ⟨qp, cp, rfl⟩ := hwp.form
     refine Zm Y <| Zd Y rfl <| Zd Y rfl <| Za Y <| Za Y <| Z0 <| Zn [0, 6, 9] ?_
     refine Zx <| Zq <| Zg <| Zm Y <| Zm Y <| Zm Y ?_
     (refine op_v (p_slice_slice_to underlying35 sizeOf9 Y Y ?_) ?_; (focus (omega)))
     refine Zr [_] Y call35 Y rfl (r2_root _ (Nat.le_refl _) (ls := ls.take (leftN ls.length)) (by exact hvt) (by rw [hlt2]; omega) (fun s h => hs s (List.mem_of_mem_take h))) ?_
     rintro _ _ ⟨rfl, rfl⟩
     refine Ze (w_buildSlice (vs := [_]) (cs := [_]) underlying35 sizeOf9 zeroValue9 Y rfl rfl rfl rfl rfl) ?_
     rintro _ _ ⟨g3, rfl, rfl⟩
     refine Ze (w_appendS (by_ := 16) (sz := 1) (news := [_]) underlying35 (rfl : Tryz.prog.info? 9 = some Tryz.t9) rfl rfl rfl rfl Y hwp Y (by repeat (first | exact One.here _ _ | apply One.there)) (by repeat (first | exact Has.here _ | apply Has.there)) (by rfl) rfl (by simp [Value.oneCell']) (by decide) (by omega) (by omega)) ?_
     rintro _ _ ⟨sw5, hrw5, rfl⟩
     obtain ⟨gw5, cw5, rfl⟩ := hrw5.form
     refine Za Y <| Za Y <| Z0 <| Zx <| at_ret ?_
     refine nx_end2 rfl results49 Y Y (by exact ⟨_, _, rfl, rowS_eq hrw5 (by rw [proof_second h9 hik, List.length_append]; rfl) (by rw [proof_second h9 hik, List.map_append]; rfl), rfl⟩)

theorem r2_proof : ∀ (n : Nat) {M : List Chunk} {v : Value} {ls : List Bs} (i : Nat), i < ls.length → ls.length ≤ n → StrsU M v ls → ls.length ≤ 1000000 → (∀ s ∈ ls, s.length ≤ 1099511627000) → Does Tryz.prog 49 #[v, .int .i64 (i : Int)] [M] (fun r H' => ∃ vp sp, r = .tuple #[vp, .int .i64 0] ∧ RowS 1 9 vp (proofT ls i).length ((proofT ls i).map strV) sp ∧ H' = [sp, M])
  | 0, _, _, ls, i, hi, h, hv, hn, hs => r2_proof_step ls.length (fun _ _ h9 => absurd h9 (by omega)) i hi rfl hv hn hs
  | n + 1, _, _, ls, i, hi, h, hv, hn, hs => r2_proof_step ls.length (fun j hj h9 hv2 hn2 hs2 => r2_proof n j hj (by omega) hv2 hn2 hs2) i hi rfl hv hn hs

theorem r10_root (rp : Nat) (p : Int) (w : Value) (rs : List RowM) (sv : List Chunk) (hrow : RowS 5 74 w rs.length (rowCells rs) sv) (hn : rs.length ≤ 2000) (hs : SortedR rs) (hok : ∀ r ∈ rs, r.ok) : DoesR Tryz.prog 10 #[.pointer (some ⟨rp, 0, none⟩)] [[(rp, .cells #[w, .int .i64 p] 121 (0, 0))], sv] (.string (str (rootS rs))) := by
 have hml : maxLen = 9223372036854775807 := rfl
 refine spec_enter func10 rfl ntmps10 rfl ?_
 intro u R
 refine Zb [0] ?_
 refine Zq <| Zg <| Za Y <| Z0 <| Zx <| Zq <| Zg <| Zm Y <| Zc [_] Y call36 Y rfl (r10_summ rp p w rs sv hrow hn hs hok) ?_
 rintro _ _ ⟨_, ⟨so, hso, rfl⟩, rfl⟩
 have hSm := strsU_row (rowS_eq hso (sumL_len rs).symm rfl) (by rw [sumL_len]; omega)
 obtain ⟨qt, ct, rfl⟩ := hso.form
 refine Zr [_] Y call35 Y rfl (r2_root _ (Nat.le_refl _) hSm (by rw [sumL_len]; omega) (fun s h => by obtain ⟨x, _, rfl⟩ := List.mem_map.1 h; have := summ_len hs hn x; omega)) ?_
 rintro _ _ ⟨rfl, rfl⟩
 refine Za Y <| Z0 <| Zx <| at_ret ?_
 refine nx_end1 rfl results10 Y (by exact ⟨rfl, rfl⟩)

end Go.Proofs.YtjeepldonhgohaaGreatDoor
