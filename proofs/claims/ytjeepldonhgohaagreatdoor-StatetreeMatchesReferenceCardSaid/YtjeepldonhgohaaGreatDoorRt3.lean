/- The reference of layer 10: Prove. -/
import Derived.Test.YtjeepldonhgohaaGreatDoorEz
import Derived.Test.YtjeepldonhgohaaGreatDoorRt2
import Derived.Test.YtjeepldonhgohaaGreatDoorTr11

namespace Go.Proofs.YtjeepldonhgohaaGreatDoor
open Go.Proofs.Tryz
open Go Go.RowKit Gw
set_option linter.unusedVariables false
set_option linter.unusedSimpArgs false
set_option maxRecDepth 100000
attribute [local irreducible] Gw.At Gw.Nx Gw.Ops
theorem cnt_lo {f k : Nat} {v lo : Int} (h1 : f ≤ k → lo ≤ v) (h2 : k < f → v < lo) (h : v < lo) : min k f + 1 = min (k + 1) f := by
  rcases Nat.lt_or_ge k f with h9 | h9
  · omega
  · have := h1 h9; omega
theorem cnt_no {f k : Nat} {v lo : Int} (h1 : f ≤ k → lo ≤ v) (h2 : k < f → v < lo) (h : ¬ v < lo) : min k f = min (k + 1) f := by
  rcases Nat.lt_or_ge k f with h9 | h9
  · have := h2 h9; omega
  · omega

set_option maxHeartbeats 1000000 in
theorem r10_prove0 (rp : Nat) (p : Int) (w : Value) (rs : List RowM) (sv : List Chunk) (hrow : RowS 5 74 w rs.length (rowCells rs) sv) (hn : rs.length ≤ 2000) (hs : SortedR rs) (hok : ∀ r ∈ rs, r.ok) (t c : Nat) (ht : t ≤ 3) (hc : c ≤ 3) (lo hi : Int) (hlh : lo ≤ hi) :
    Does Tryz.prog 13 #[.pointer (some ⟨rp, 0, none⟩), .int .i64 (t : Int), .int .i64 (c : Int), .int .i64 lo, .int .i64 hi] [[(rp, .cells #[w, .int .i64 p] 121 (0, 0))], sv] (fun r H' => ∃ vr vp vt sr2 sp pvs mp so, r = .tuple #[.agg #[.int .i64 (t : Int), .int .i64 (c : Int), .int .i64 lo, .int .i64 hi, .int .i64 (((ordL rs (t : Int) c).length : Nat) : Int), .int .i64 (((fromT (ordL rs (t : Int) c) c lo) : Nat) : Int), vr, vp, vt], .int .i64 0] ∧ RowS 5 74 vr (((ordL rs (t : Int) c).drop (fromT (ordL rs (t : Int) c) c lo)).take ((toT (ordL rs (t : Int) c) c hi) - (fromT (ordL rs (t : Int) c) c lo))).length (rowCells (((ordL rs (t : Int) c).drop (fromT (ordL rs (t : Int) c) c lo)).take ((toT (ordL rs (t : Int) c) c hi) - (fromT (ordL rs (t : Int) c) c lo)))) sr2 ∧ RowS 1 35 vp ((toT (ordL rs (t : Int) c) c hi) - (fromT (ordL rs (t : Int) c) c lo)) pvs sp ∧ PathsS mp pvs (pathsT (ordL rs (t : Int) c) (fromT (ordL rs (t : Int) c) c lo) ((toT (ordL rs (t : Int) c) c hi) - (fromT (ordL rs (t : Int) c) c lo))) ∧ RowS 1 9 vt 16 ((sumL rs).map strV) so ∧ H' = [sr2, sp, mp, so, [(rp, .cells #[w, .int .i64 p] 121 (0, 0))], sv]) := by
 have hml : maxLen = 9223372036854775807 := rfl
 have hll := ordL_len hs (t : Int) c
 have hf1 := first_le (geV c lo) (ordL rs (t : Int) c)
 have hf2 := first_le (gtV c hi) (ordL rs (t : Int) c)
 have hfm := first_mono hs t c lo hi hlh
 have hfr : (fromT (ordL rs (t : Int) c) c lo) = firstN (geV c lo) (ordL rs (t : Int) c) - 1 := rfl
 have hto : (toT (ordL rs (t : Int) c) c hi) = min (firstN (gtV c hi) (ordL rs (t : Int) c) + 1) (ordL rs (t : Int) c).length := rfl
 refine spec_enter func13 rfl ntmps13 rfl ?_
 intro u R
 refine Zb [0, 1, 2, 3, 4] ?_
 refine Zq <| Zg <| Ze (w_alloc zeroValue37 (cs := #[_, _, _, _, _, _, _, _, _]) rfl) ?_
 rintro _ _ ⟨rb, rfl, rfl⟩
 refine Za Y <| Z0 <| Zx <| Zq <| Zq <| Zg <| Zm Y <| Zv (p_lss_nat (n := 0) Y Y) <| Zm Y ?_
 refine ops_split (t := 26) Y rfl (fun k1 => ?_) (fun k1 => ?_)
 ·
  exfalso; omega
 ·
  refine Zf Y Y <| op_wg Y (p_geq_nat (n := 4) Y Y) rfl rfl ?_
  refine Zv (p_pick_f Y Y) <| Zm Y ?_
  refine ops_split (t := 30) Y rfl (fun k2 => ?_) (fun k2 => ?_)
  ·
   exfalso; omega
  ·
   refine Zf Y Y <| op_wg Y (p_lss_nat (n := 0) Y Y) rfl rfl ?_
   refine Zv (p_pick_f Y Y) <| Zm Y ?_
   refine ops_split (t := 34) Y rfl (fun k3 => ?_) (fun k3 => ?_)
   ·
    exfalso; omega
   ·
    refine Zf Y Y <| op_wg Y (p_geq_nat (n := 4) Y Y) rfl rfl ?_
    refine Zv (p_pick_f Y Y) <| Zm Y ?_
    refine ops_split (t := 38) Y rfl (fun k3 => ?_) (fun k3 => ?_)
    ·
     exfalso; omega
    ·
     refine Zf Y Y <| Zf Y Y <| op_wg Y (p_gtr Y Y) rfl rfl ?_
     refine Zv (p_pick_f Y Y) <| Z0 <| Zn [0, 1, 2, 3, 4, 10, 42] ?_
     refine Zx ?_
     refine at_if Y (fun k4 => ?_) (fun k4 => ?_)
     ·
      exfalso; omega
     ·
      refine at_skip <| Zx <| Zq <| Zg <| Zm Y <| Zm Y <| Zm Y <| Zc [_, _, _] Y call46 Y rfl (r10_order rp p w rs sv hrow hn (t : Int) c hc) ?_
      rintro _ _ ⟨_, ⟨sr, hr0, rfl⟩, rfl⟩
      obtain ⟨qr, cr, rfl⟩ := hr0.form
      have hRU := rowsU_row hr0 (by omega)
      obtain ⟨p9, cap9, e9, hol, hg⟩ := id hRU
      injection e9 with e91 e92 e93
      subst e91 e93
      refine Za Y <| Z0 <| Zx <| Zq <| Zg <| Zm Y <| Zc [_] Y call47 Y rfl (r10_entries hRU (by omega) (fun r h => hok r (range_mem h))) ?_
      rintro _ _ ⟨_, ⟨se, he, rfl⟩, rfl⟩
      obtain ⟨qe, ce, rfl⟩ := he.form
      have hSU : StrsU se (.slice qe (ordL rs (t : Int) c).length ce) (encL (ordL rs (t : Int) c)) := strsU_row (rowS_eq he (encL_len _).symm rfl) (by rw [encL_len]; omega)
      refine Za Y <| Z0 <| Zx <| Zq <| Zg <| Za Y <| Z0 <| Zx <| Zq <| Zg <| Za Y <| Z0 <| Zx <| Zq <| Zq <| Zg <| Za Y <| Z0 <| Zx <| at_block <| Zb [14, 15, 16, 0, 1, 2, 3, 4, 10, 12, 13] ?_
      refine at_loopB (e0 := [(14, _), (15, _), (16, _)]) (H0 := _) (n := _) (fun m e H => ∃ (k i j : Nat), m = (ordL rs (t : Int) c).length - k ∧ (k ≤ (ordL rs (t : Int) c).length ∧ i = min k (firstN (geV c lo) (ordL rs (t : Int) c)) ∧ j = min k (firstN (gtV c hi) (ordL rs (t : Int) c))) ∧ e = [(14, .int .i64 (i : Int)), (15, .int .i64 (j : Int)), (16, .int .i64 (k : Int))] ∧ H = []) (by exact ⟨0, 0, 0, rfl, ⟨Nat.zero_le _, (Nat.zero_min _).symm, (Nat.zero_min _).symm⟩, rfl, rfl⟩) (by repeat (first | exact Pull.nil _ | (apply Pull.cons; (focus (repeat (first | exact One.here _ _ | apply One.there)))))) ?_
      rintro _ _ _ ⟨k, i, j, rfl, ⟨hk, hi0, hj0⟩, rfl, rfl⟩
      refine Zq <| Zq <| Zg <| Zm Y <| Zm Y <| Zv (p_len_slice underlying33 Y) <| Zv (p_lss_nat Y Y) <| Z0 <| Zx ?_
      refine at_if Y (fun hlt => ?_) (fun hlt => ?_)
      ·
       obtain ⟨x, hx⟩ : ∃ x, (ordL rs (t : Int) c)[k]? = some x := ⟨_, List.getElem?_eq_getElem hlt⟩
       obtain ⟨g, off, cur, T, zz, rfl, hm9, hsz9, hex9⟩ := hg _ x hx
       have hlo := lo_at hs t c lo hx
       have hhi1 : firstN (gtV c hi) (ordL rs (t : Int) c) ≤ k → hi + 1 ≤ valN x c := fun h => by have := (hi_at hs t c hi hx).1 h; omega
       have hhi2 : k < firstN (gtV c hi) (ordL rs (t : Int) c) → valN x c < hi + 1 := fun h => by have := (hi_at hs t c hi hx).2 h; omega
       refine at_skip <| Zx <| Zq <| at_block <| Zq <| Zg <| Zm Y <| Zm Y ?_
       (refine op_v (p_indexAddr_nat underlying33 sizeOf74 Y Y ?_) ?_; (focus (first | omega | decide | (simp; done))))
       refine op_rm (cs := [(g, .cells cur T zz)]) (by simp [hm9]) (p_load_agg (cs := #[.int .i64 x.t, .int .i64 x.k, .int .i64 x.v.a, .int .i64 x.v.b, .int .i64 x.v.c]) isAgg74 sizeOf74 Y (by omega) hex9) rfl rfl ?_
       refine Zm Y <| Zr [_, _] Y call48 Y rfl (r3_value x c hc) ?_
       rintro _ _ ⟨rfl, rfl⟩
       refine Za Y <| Z0 <| Zx <| Zb [14, 0, 1, 2, 3, 4, 10, 12, 13, 15, 16, 17] ?_
       refine at_cutB (e0 := [(14, _)]) (H0 := []) (fun e H => ∃ (i2 : Nat), (i2 = min (k + 1) (firstN (geV c lo) (ordL rs (t : Int) c))) ∧ e = [(14, .int .i64 (i2 : Int))] ∧ H = []) (by repeat (first | exact Pull.nil _ | (apply Pull.cons; (focus (repeat (first | exact One.here _ _ | apply One.there)))))) ?hx_2 ?hy_2
       case hx_2 =>
        refine Zq <| Zg <| Zm Y <| Zm Y <| Zv (p_lss Y Y) <| Z0 <| Zx ?_
        refine at_if Y (fun hv1 => ?_) (fun hv1 => ?_)
        ·
         refine Zg <| Zm Y ?_
         (refine op_v (p_add_nat (n := 1) Y Y ?_) ?_; (focus (omega)))
         refine Za Y <| Z0 <| Zn [14, 0, 1, 2, 3, 4, 10, 12, 13, 15, 16, 17] ?_
         refine nx_cutB (e' := [(14, _)]) (H' := _) (by exact ⟨i + 1, by rw [hi0]; exact cnt_lo hlo.1 hlo.2 hv1, rfl, rfl⟩)
        ·
         refine at_skip <| Zn [14, 0, 1, 2, 3, 4, 10, 12, 13, 15, 16, 17] ?_
         refine nx_cutB (e' := [(14, _)]) (H' := _) (by exact ⟨i, by rw [hi0]; exact cnt_no hlo.1 hlo.2 hv1, rfl, rfl⟩)
       case hy_2 =>
        rintro _ _ ⟨i2, hi2, rfl, rfl⟩
        refine Zq <| Zg <| Zm Y <| Zm Y <| Zv (p_leq Y Y) <| Z0 <| Zx ?_
        refine at_if Y (fun hv2 => ?_) (fun hv2 => ?_)
        ·
         refine Zg <| Zm Y ?_
         (refine op_v (p_add_nat (n := 1) Y Y ?_) ?_; (focus (omega)))
         refine Za Y <| Z0 <| nx_block_normal <| Zx <| Zg <| Zm Y ?_
         (refine op_v (p_add_nat (n := 1) Y Y ?_) ?_; (focus (omega)))
         refine Za Y <| Z0 <| Zn [14, 15, 16, 0, 1, 2, 3, 4, 10, 12, 13] ?_
         refine nx_againB (e' := [(14, _), (15, _), (16, _)]) (m := _) (H' := _) (by exact ⟨k + 1, i2, j + 1, rfl, ⟨by omega, hi2, by rw [hj0]; exact cnt_lo (lo := hi + 1) hhi1 hhi2 (by omega)⟩, rfl, rfl⟩)
        ·
         refine at_skip <| nx_block_normal <| Zx <| Zg <| Zm Y ?_
         (refine op_v (p_add_nat (n := 1) Y Y ?_) ?_; (focus (omega)))
         refine Za Y <| Z0 <| Zn [14, 15, 16, 0, 1, 2, 3, 4, 10, 12, 13] ?_
         refine nx_againB (e' := [(14, _), (15, _), (16, _)]) (m := _) (H' := _) (by exact ⟨k + 1, i2, j, rfl, ⟨by omega, hi2, by rw [hj0]; exact cnt_no (lo := hi + 1) hhi1 hhi2 (by omega)⟩, rfl, rfl⟩)
      ·
       have ek : k = (ordL rs (t : Int) c).length := by omega
       subst ek
       rw [Nat.min_eq_right hf1] at hi0
       rw [Nat.min_eq_right hf2] at hj0
       subst hi0 hj0
       refine at_exit <| Zt <| Zt <| nx_block_exit <| Zx <| Zb [14, 0, 1, 2, 3, 4, 10, 12, 13, 15] ?_
       refine at_cutB (e0 := [(14, _)]) (H0 := []) (fun e H => (True) ∧ e = [(18, .int .i64 (((fromT (ordL rs (t : Int) c) c lo) : Nat) : Int))] ∧ H = []) (by repeat (first | exact Pull.nil _ | (apply Pull.cons; (focus (repeat (first | exact One.here _ _ | apply One.there)))))) ?hx_7 ?hy_7
       case hx_7 =>
        refine Zg <| Zm Y ?_
        (refine op_v (p_sub Y Y (IntWalk.i64_in _ ?_)) ?_; (focus (omega)))
        refine Zv (p_max_pred Y Y) <| Za Y <| Z0 <| Zn [18, 0, 1, 2, 3, 4, 10, 12, 13, 15] ?_
        refine nx_cutB (e' := [(18, _)]) (H' := _) (by exact ⟨trivial, by (rw [hfr]; done), rfl⟩)
       case hy_7 =>
        rintro _ _ ⟨_, rfl, rfl⟩
        refine Zb [15, 0, 1, 2, 3, 4, 10, 12, 13, 18] ?_
        refine at_cutB (e0 := [(15, _)]) (H0 := []) (fun e H => (True) ∧ e = [(19, .int .i64 (((toT (ordL rs (t : Int) c) c hi) : Nat) : Int))] ∧ H = []) (by repeat (first | exact Pull.nil _ | (apply Pull.cons; (focus (repeat (first | exact One.here _ _ | apply One.there)))))) ?hx_9 ?hy_9
        case hx_9 =>
         refine Zg <| Zm Y ?_
         (refine op_v (p_add_nat (n := 1) Y Y ?_) ?_; (focus (omega)))
         refine Zm Y <| Zv (p_len_slice underlying33 Y) <| Zv (p_min_nat Y Y) <| Za Y <| Z0 <| Zn [19, 0, 1, 2, 3, 4, 10, 12, 13, 18] ?_
         refine nx_cutB (e' := [(19, _)]) (H' := _) (by exact ⟨trivial, by (rw [hto]; done), rfl⟩)
        case hy_9 =>
         rintro _ _ ⟨_, rfl, rfl⟩
         refine Zq <| Zg <| Zm Y <| Zm Y <| Zm Y <| Zm Y <| Zm Y <| Zv (p_len_slice underlying33 Y) <| Zm Y <| Zm Y <| Zc [_] Y call36 Y rfl (r10_summ rp p w rs sv hrow hn hs hok) ?_
         rintro _ _ ⟨_, ⟨so, hso, rfl⟩, rfl⟩
         have hSm := strsU_row (rowS_eq hso (sumL_len rs).symm rfl) (by rw [sumL_len]; omega)
         obtain ⟨qt, ct, rfl⟩ := hso.form
         refine Zv (p_build (vs := [(0, .int .i64 (t : Int)), (1, .int .i64 (c : Int)), (2, .int .i64 lo), (3, .int .i64 hi), (4, .int .i64 (((ordL rs (t : Int) c).length : Nat) : Int)), (5, .int .i64 (((fromT (ordL rs (t : Int) c) c lo) : Nat) : Int)), (8, .slice qt 16 ct)]) (cs := #[.int .i64 (t : Int), .int .i64 (c : Int), .int .i64 lo, .int .i64 hi, .int .i64 (((ordL rs (t : Int) c).length : Nat) : Int), .int .i64 (((fromT (ordL rs (t : Int) c) c lo) : Nat) : Int), .slice none 0 0, .slice none 0 0, .slice qt 16 ct]) Y (run_build_struct (pl := #[(0, 1), (1, 1), (2, 1), (3, 1), (4, 1), (5, 1), (6, 1), (7, 1), (8, 1)]) zeroValue37 underlying37 (fun _ => by kernel_rfl) (by kernel_rfl))) ?_
         refine Ze (w_alloc zeroValue37 (cs := #[_, _, _, _, _, _, _, _, _]) rfl) ?_
         rintro _ _ ⟨pb, rfl, rfl⟩
         refine Ze (w_store_agg sizeOf37 Y Y (by simp [Value.oneCell', Value.cells]) (by repeat (first | exact Upd.here _ | apply Upd.there)) (by exact (rfl : _ = (#[.int .i64 (t : Int), .int .i64 (c : Int), .int .i64 lo, .int .i64 hi, .int .i64 (((ordL rs (t : Int) c).length : Nat) : Int), .int .i64 (((fromT (ordL rs (t : Int) c) c lo) : Nat) : Int), .slice none 0 0, .slice none 0 0, .slice qt 16 ct] : Array Value))) (by first | rfl | (simp; done)) (by first | omega | decide | (simp; done)) (by exact free_zero _)) ?_
         rintro _ _ ⟨rfl, rfl⟩
         refine Z0 <| Zx <| Zq <| Zq <| Zg <| Zm Y <| Za Y <| Z0 <| Zn [10, 12, 13, 19, 20, 21] ?_
         refine Zx <| at_block <| at_nil ?_
         refine at_nil ?_
         refine at_nil ?_
         refine Zb [21, 10, 12, 13, 19, 20] ?_
         refine at_loopB (e0 := [(21, _)]) (H0 := _) (n := _) (fun m e H => ∃ (k : Nat) (vr2 : Value) (sr2 : List Chunk) (vp : Value) (sp : List Chunk) (pvs : List Value) (mp : List Chunk), m = (toT (ordL rs (t : Int) c) c hi) - (fromT (ordL rs (t : Int) c) c lo) - k ∧ (k ≤ (toT (ordL rs (t : Int) c) c hi) - (fromT (ordL rs (t : Int) c) c lo) ∧ RowS 5 74 vr2 k (rowCells (((ordL rs (t : Int) c).drop (fromT (ordL rs (t : Int) c) c lo)).take k)) sr2 ∧ RowS 1 35 vp k pvs sp ∧ PathsS mp pvs (pathsT (ordL rs (t : Int) c) (fromT (ordL rs (t : Int) c) c lo) k)) ∧ e = [(21, .int .i64 (((fromT (ordL rs (t : Int) c) c lo) + k : Nat) : Int))] ∧ H = [[(pb, .cells #[.int .i64 (t : Int), .int .i64 (c : Int), .int .i64 lo, .int .i64 hi, .int .i64 (((ordL rs (t : Int) c).length : Nat) : Int), .int .i64 (((fromT (ordL rs (t : Int) c) c lo) : Nat) : Int), vr2, vp, .slice qt 16 ct] 37 (0, 0))], sr2, sp, mp]) (by exact ⟨0, .slice none 0 0, [], .slice none 0 0, [], [], [], rfl, ⟨Nat.zero_le _, by rw [List.take_zero]; exact rowS_nil 5 _, rowS_nil 1 _, paths_nil _⟩, rfl, rfl⟩) (by repeat (first | exact Pull.nil _ | (apply Pull.cons; (focus (repeat (first | exact One.here _ _ | apply One.there)))))) ?_
         rintro _ _ _ ⟨k, vr2, sr2, vp, sp, pvs, mp, rfl, ⟨hk, hr2, hp2, hP⟩, rfl, rfl⟩
         obtain ⟨q2, c2, rfl⟩ := hr2.form
         obtain ⟨q3, c3, rfl⟩ := hp2.form
         refine Zq <| Zq <| Zg <| Zm Y <| Zm Y <| Zv (p_lss_nat Y Y) <| Z0 <| Zx ?_
         refine at_if Y (fun hlt => ?_) (fun hlt => ?_)
         ·
          obtain ⟨x, hx⟩ : ∃ x, (ordL rs (t : Int) c)[(fromT (ordL rs (t : Int) c) c lo) + k]? = some x := ⟨_, List.getElem?_eq_getElem (by omega)⟩
          obtain ⟨g, off, cur, T, zz, rfl, hm9, hsz9, hex9⟩ := hg _ x hx
          have hx2 : ((ordL rs (t : Int) c).drop (fromT (ordL rs (t : Int) c) c lo))[k]? = some x := by rw [List.getElem?_drop]; exact hx
          refine at_skip <| Zx <| Zq <| at_block <| Zq <| Zg <| Zm Y <| Zm Y <| Zc [_, _] Y call49 Y rfl (r2_proof _ ((fromT (ordL rs (t : Int) c) c lo) + k) (by rw [encL_len]; omega) (Nat.le_refl _) hSU (by rw [encL_len]; omega) (fun s h => by have := encL_ok (fun r hr => hok r (range_mem hr)) s h; omega)) ?_
          rintro _ _ ⟨_, ⟨vpath, spath, rfl, hpath, rfl⟩, rfl⟩
          have hplen : (proofT (encL (ordL rs (t : Int) c)) ((fromT (ordL rs (t : Int) c) c lo) + k)).length ≤ maxLen := path_le hpath
          have hPU := strsU_row hpath hplen
          have hP2 := pathsT_snoc (ordL rs (t : Int) c) (fromT (ordL rs (t : Int) c) c lo) k ▸ hP.snoc (hPU.mono (fun c h => List.mem_append_left mp h)) (fun c h => List.mem_append_right spath h)
          obtain ⟨qx, cx, rfl⟩ := hpath.form
          refine Zm Y <| Zd Y rfl <| Zd Y rfl <| Za Y <| Za Y <| Z0 <| Zx <| Zq <| at_join (s1 := spath) (s2 := mp) (by repeat (first | exact One.here _ _ | apply One.there)) (by repeat (first | exact One.here _ _ | apply One.there)) ?_
          refine at_draw (n := 10) (0 :: 1 :: 0 :: 0 :: 12 :: 28 :: 60 :: 127 :: 255 :: 511 :: []) 704 (by kernel_rfl) (by kernel_rfl) rfl ?_
          refine Zi 1 0 rfl (p_fieldAddr0 (off := 6) underlying37 rfl rfl sizeOf33 Y) <| Zj 3 1 rfl isAgg33 Y ?_
          refine Zi 7 2 rfl (p_move Y) <| Zi 15 3 rfl (p_move Y) ?_
          (refine lin_v (D' := 31) 4 (p_indexAddr_nat underlying33 sizeOf74 Y Y ?_) ?_; (focus (first | omega | decide | (simp; done))))
          refine lin_rm (b := g) (x := .cells cur T zz) (D' := 63) 5 rfl rfl rfl (by simp [hm9]) (p_load_agg (cs := #[.int .i64 x.t, .int .i64 x.k, .int .i64 x.v.a, .int .i64 x.v.b, .int .i64 x.v.c]) isAgg74 sizeOf74 Y (by omega) hex9) ?_
          refine Zz (l := [6]) ?_
          refine Zy 60 127 [5, 1] [false, true] [(1, (_, _))] rfl Y rfl rfl rfl rfl (w_buildSlice (vs := [_]) (cs := [_, _, _, _, _]) underlying33 sizeOf74 zeroValue74 Y rfl rfl rfl rfl rfl) ?hk_12 (fun _ _ h => h.elim) ?hl_12
          case hk_12 =>
           rintro _ _ ⟨gb1, rfl, rfl⟩
           refine ⟨Zk (keep_nil), ?_⟩
           refine Zz (l := [7]) ?_
           refine Zy 127 255 [1] [false] [] rfl Y rfl rfl rfl rfl (w_append_subS (by_ := 40) (sz := 5) underlying33 (rfl : Tryz.prog.info? 74 = some Tryz.t74) rfl rfl rfl rfl Y (hr2) Y (subS_new 5 gb1 1 1 74 (0, 0) [.int .i64 x.t, .int .i64 x.k, .int .i64 x.v.a, .int .i64 x.v.b, .int .i64 x.v.c] rfl) (by repeat (first | exact One.here _ _ | apply One.there)) (by repeat (first | exact One.here _ _ | apply One.there)) (by simp [Value.oneCell']) (by omega) (by omega)) ?hk_13 (fun _ _ h => h.elim) ?hl_13
           case hk_13 =>
            rintro _ _ ⟨sa9, hra9, rfl⟩
            refine ⟨keep_nil, ?_⟩
            obtain ⟨ga9, ca9, rfl⟩ := hra9.form
            refine Zi 511 8 rfl (p_fieldAddr0 (off := 6) underlying37 rfl rfl sizeOf33 Y) <| Zz (l := [9]) ?_
            refine Zy 511 1023 [] [] [] rfl Y rfl rfl rfl rfl (Zs sizeOf33 Y Y rfl (hi := by first | omega | decide | (simp; done))) ?hk_14 (fun _ _ h => h.elim) ?hl_14
            case hk_14 =>
             rintro _ _ ⟨rfl, rfl⟩
             refine ⟨keep_nil, ?_⟩
             refine lin_nil ?_
             refine Zn [10, 12, 13, 19, 20, 21, 22] ?_
             refine Zx <| Zg <| Zh 7 underlying37 rfl rfl sizeOf34 Y <| Zl isAgg34 Y ?_
             refine Zm Y <| Ze (w_buildSlice (vs := [_]) (cs := [_]) underlying34 sizeOf35 zeroValue35 Y rfl rfl rfl rfl rfl) ?_
             rintro _ _ ⟨gb2, rfl, rfl⟩
             refine Ze (w_appendS (by_ := 24) (sz := 1) (news := [_]) underlying34 (rfl : Tryz.prog.info? 35 = some Tryz.t35) rfl rfl rfl rfl Y hp2 Y (by repeat (first | exact One.here _ _ | apply One.there)) (by repeat (first | exact Has.here _ | apply Has.there)) (by rfl) rfl (by simp [Value.oneCell', Value.cells]) (by decide) (by omega) (by omega)) ?_
             rintro _ _ ⟨sw7, hrw7, rfl⟩
             obtain ⟨gw7, cw7, rfl⟩ := hrw7.form
             refine Zh 7 underlying37 rfl rfl sizeOf34 Y <| Ze (Zs sizeOf34 Y Y rfl (hi := by first | omega | decide | (simp; done))) ?_
             rintro _ _ ⟨rfl, rfl⟩
             refine Z0 <| nx_block_normal <| Zx <| Zg <| Zm Y ?_
             (refine op_v (p_add_nat (n := 1) Y Y ?_) ?_; (focus (omega)))
             refine Za Y <| Z0 <| Zn [21, 10, 12, 13, 19, 20] ?_
             refine nx_againB (e' := [(21, _)]) (m := _) (H' := _) (by exact ⟨k + 1, _, _, _, _, pvs ++ [_], spath ++ mp, rfl, ⟨by omega, rowS_eq hra9 rfl (by rw [take_snoc hx2, rowCells_app]; rfl), rowS_eq hrw7 rfl rfl, hP2⟩, rfl, rfl⟩)
            case hl_14 =>
             exact each_nil
           case hl_13 =>
            exact each_nil
          case hl_12 =>
           exact each_nil
         ·
          have ek : k = (toT (ordL rs (t : Int) c) c hi) - (fromT (ordL rs (t : Int) c) c lo) := by omega
          subst ek
          refine at_exit <| Zt <| Zt <| nx_block_exit <| Zx <| Zq <| Zg <| Zo (by repeat (first | exact Has.here _ | apply Has.there)) (p_load_agg (cs := #[.int .i64 (t : Int), .int .i64 (c : Int), .int .i64 lo, .int .i64 hi, .int .i64 (((ordL rs (t : Int) c).length : Nat) : Int), .int .i64 (((fromT (ordL rs (t : Int) c) c lo) : Nat) : Int), .slice q2 _ c2, .slice q3 _ c3, .slice qt 16 ct]) isAgg37 sizeOf37 Y (by first | omega | decide | (simp; done)) (by rfl)) ?_
          refine Ze (w_store_agg sizeOf37 Y Y (by simp [Value.oneCell', Value.cells]) (by repeat (first | exact Upd.here _ | apply Upd.there)) (by exact (rfl : _ = (#[.int .i64 (t : Int), .int .i64 (c : Int), .int .i64 lo, .int .i64 hi, .int .i64 (((ordL rs (t : Int) c).length : Nat) : Int), .int .i64 (((fromT (ordL rs (t : Int) c) c lo) : Nat) : Int), .slice q2 _ c2, .slice q3 _ c3, .slice qt 16 ct] : Array Value))) (by first | rfl | (simp; done)) (by first | omega | decide | (simp; done)) (by exact free_zero _)) ?_
          rintro _ _ ⟨rfl, rfl⟩
          refine Za Y <| Z0 <| Zx <| at_ret ?_
          refine nx_endct rfl results13 Y (by repeat (first | exact Has.here _ | apply Has.there)) (loadVar_agg isAgg37 sizeOf37 (by first | decide | exact Nat.le_refl _ | (simp; done) | (simp; omega)) (rfl)) Y (by exact ⟨_, _, _, sr2, sp, pvs, mp, so, rfl, rowS_eq hr2 (by rw [List.length_take, List.length_drop]; omega) rfl, hp2, hP, hso, rfl⟩)

end Go.Proofs.YtjeepldonhgohaaGreatDoor
