/- The reference of layer 10: Rows, Same. -/
import Derived.Test.YtjeepldonhgohaaGreatDoorEz
import Derived.Test.YtjeepldonhgohaaGreatDoorRt4
namespace Go.Proofs.YtjeepldonhgohaaGreatDoor
open Go.Proofs.Tryz
open Go Go.RowKit Gw
set_option linter.unusedVariables false
set_option linter.unusedSimpArgs false
set_option maxRecDepth 100000
attribute [local irreducible] Gw.At Gw.Nx Gw.Ops
set_option maxHeartbeats 1000000 in
theorem r10_rows {M : List Chunk} {v : Value} {x : RP} (hv : RPIn M v x) : Does Tryz.prog 15 #[v] [M] (fun r H' => ∃ vr sr, r = .tuple #[vr, .bool (decide (Comp x))] ∧ RowS 5 74 vr (rowsT x).length (rowCells (rowsT x)) sr ∧ H' = [sr, M]) := by
 have hml : maxLen = 9223372036854775807 := rfl
 obtain ⟨vr, vp, vt, rfl, hR, hP, hT⟩ := id hv
 obtain ⟨p, cap, e9, hl, hg⟩ := id hR
 subst e9
 refine spec_enter func15 rfl ntmps15 rfl ?_
 intro u R
 refine Zb [0] ?_
 refine Zq <| Zg <| Ze (w_box Y (cs := #[_, _, _, _, _, _, _, _, _]) rfl) ?_
 rintro _ _ ⟨pb, rfl, rfl⟩
 refine Za Y <| Za Y <| Z0 <| Zx <| Zq <| Zg <| Zo (by repeat (first | exact Has.here _ | apply Has.there)) (p_load_agg (cs := #[.int .i64 x.tb, .int .i64 x.cl, .int .i64 x.lo, .int .i64 x.hi, .int .i64 x.ct, .int .i64 x.fi, .slice p x.rows.length cap, vp, vt]) isAgg37 sizeOf37 Y (by first | omega | decide | (simp; done)) (by rfl)) ?_
 refine Zr [_] Y call51 Y rfl (r10_complete hv) ?_
 rintro _ _ ⟨rfl, rfl⟩
 refine Za Y <| Z0 <| Zx <| Zq <| Zq <| Zg <| Zm Y <| Zv (p_not_dec Y) <| Z0 <| Zx ?_
 refine at_if Y (fun hcm => ?_) (fun hcm => ?_)
 ·
  refine at_nil ?_
  refine Zq <| Zg <| Za Y <| Za Y <| Z0 <| Zx <| at_ret <| Zt ?_
  refine nx_end2 rfl results15 Y Y (by exact ⟨.slice none 0 0, [], by rw [decide_eq_false hcm], by rw [rows_f hcm]; exact rowS_nil 5 _, rfl⟩)
 ·
  have hcm := Classical.not_not.1 hcm
  have hc1 := hcm.tc
  have hc2 := hcm.ct
  have hc3 := hcm.n
  have hc4 := hcm.fi
  refine at_skip <| Zx <| Zq <| Zg <| Za Y <| Z0 <| Zx <| Zq <| Zq <| Zg <| Za Y <| Z0 <| Zx <| at_block <| at_nil ?_
  refine Zb [5, 6, 1] ?_
  refine at_loopB (e0 := [(5, _), (6, _)]) (H0 := _) (n := _) (fun m e H => ∃ (i : Nat) (vo : Value) (so : List Chunk), m = x.rows.length - i ∧ (i ≤ x.rows.length ∧ RowS 5 74 vo ((x.rows.take i).filter (inB x)).length (rowCells ((x.rows.take i).filter (inB x))) so) ∧ e = [(5, vo), (6, .int .i64 (i : Int))] ∧ H = [so]) (by exact ⟨0, .slice none 0 0, [], rfl, ⟨Nat.zero_le _, by rw [List.take_zero]; exact rowS_nil 5 _⟩, rfl, rfl⟩) (by repeat (first | exact Pull.nil _ | (apply Pull.cons; (focus (repeat (first | exact One.here _ _ | apply One.there)))))) ?_
  rintro _ _ _ ⟨i, vo, so, rfl, ⟨hi, hro⟩, rfl, rfl⟩
  obtain ⟨qo, co, rfl⟩ := hro.form
  have hfl : ((x.rows.take i).filter (inB x)).length ≤ i := Nat.le_trans (List.length_filter_le _ _) (List.length_take_le _ _)
  refine Zq <| Zq <| Zg <| Zm Y <| Zh 6 underlying37 rfl rfl sizeOf33 Y <| Zl isAgg33 Y ?_
  refine Zv (p_len_slice underlying33 Y) <| Zv (p_lss_nat Y Y) <| Z0 <| Zx ?_
  refine at_if Y (fun hlt => ?_) (fun hlt => ?_)
  ·
   obtain ⟨r, hr⟩ : ∃ r, x.rows[i]? = some r := ⟨_, List.getElem?_eq_getElem hlt⟩
   obtain ⟨g1, off1, cur1, T1, zz1, rfl, hm1, hsz1, hex1⟩ := hg i r hr
   refine at_skip <| Zx <| Zq <| at_block <| Zq <| at_draw (n := 9) (0 :: 1 :: 0 :: 7 :: 15 :: 0 :: 32 :: 127 :: 255 :: []) 128 (by kernel_rfl) (by kernel_rfl) rfl ?_
   refine Zi 1 0 rfl (p_fieldAddr0 (off := 6) underlying37 rfl rfl sizeOf33 Y) <| Zj 3 1 rfl isAgg33 Y ?_
   refine Zi 7 2 rfl (p_move Y) ?_
   (refine lin_v (D' := 15) 3 (p_indexAddr_nat underlying33 sizeOf74 Y Y ?_) ?_; (focus (first | omega | decide | (simp; done))))
   refine lin_rm (b := g1) (x := .cells cur1 T1 zz1) (D' := 31) 4 rfl rfl rfl (by simp [hm1]) (p_load_agg (cs := #[.int .i64 r.t, .int .i64 r.k, .int .i64 r.v.a, .int .i64 r.v.b, .int .i64 r.v.c]) isAgg74 sizeOf74 Y (by omega) hex1) ?_
   refine Zi 63 5 rfl (p_fieldAddr0 (off := 1) underlying37 rfl rfl sizeOf3 Y) <| Zj 127 6 rfl isAgg3 Y ?_
   refine Zz (l := [7]) ?_
   refine Zy 127 255 [6, 4, 1] [false, false, false] [] rfl Y rfl rfl rfl rfl (Zu [_, _] Y call48 Y rfl (r3_valueI r x.cl (by omega))) ?hk_3 (fun _ _ h => h.elim) ?hl_3
   case hk_3 =>
    rintro _ _ ⟨rfl, rfl⟩
    refine ⟨keep_nil, ?_⟩
    refine Zi 511 8 rfl (p_assign Y) <| lin_nil ?_
    refine Zn [1, 5, 6, 7] ?_
    refine Zx <| Zq <| Zg <| Zm Y <| Zh 2 underlying37 rfl rfl sizeOf3 Y <| Zl isAgg3 Y ?_
    refine Zv (p_geq Y Y) <| Zm Y ?_
    refine ops_split (t := 31) Y rfl (fun hg1 => ?_) (fun hg1 => ?_)
    ·
     refine Zf Y Y <| op_wg Y (p_fieldAddr0 (off := 3) underlying37 rfl rfl sizeOf3 Y) rfl rfl ?_
     refine op_rg Y (by repeat (first | exact Has.here _ | apply Has.there)) (p_load isAgg3 Y (by rfl)) rfl rfl ?_
     refine op_wg Y (p_leq Y Y) rfl rfl ?_
     refine Zv (p_pick_t Y Y) <| Z0 <| Zx ?_
     refine at_if Y (fun hg2 => ?_) (fun hg2 => ?_)
     ·
      have hin : inB x r = true := decide_eq_true (by omega)
      refine Zg <| Zm Y <| Zh 6 underlying37 rfl rfl sizeOf33 Y <| Zl isAgg33 Y ?_
      refine Zm Y ?_
      (refine op_v (p_indexAddr_nat underlying33 sizeOf74 Y Y ?_) ?_; (focus (first | omega | decide | (simp; done))))
      refine op_rm (cs := [(g1, .cells cur1 T1 zz1)]) (by simp [hm1]) (p_load_agg (cs := #[.int .i64 r.t, .int .i64 r.k, .int .i64 r.v.a, .int .i64 r.v.b, .int .i64 r.v.c]) isAgg74 sizeOf74 Y (by omega) hex1) rfl rfl ?_
      refine Ze (w_buildSlice (vs := [_]) (cs := [_, _, _, _, _]) underlying33 sizeOf74 zeroValue74 Y rfl rfl rfl rfl rfl) ?_
      rintro _ _ ⟨gb, rfl, rfl⟩
      refine Ze (w_append_subS (by_ := 40) (sz := 5) underlying33 (rfl : Tryz.prog.info? 74 = some Tryz.t74) rfl rfl rfl rfl Y (hro) Y (subS_new 5 gb 1 1 74 (0, 0) [.int .i64 r.t, .int .i64 r.k, .int .i64 r.v.a, .int .i64 r.v.b, .int .i64 r.v.c] rfl) (by repeat (first | exact One.here _ _ | apply One.there)) (by repeat (first | exact One.here _ _ | apply One.there)) (by simp [Value.oneCell']) (by omega) (by omega)) ?_
      rintro _ _ ⟨sa9, hra9, rfl⟩
      obtain ⟨ga9, ca9, rfl⟩ := hra9.form
      refine Za Y <| Z0 <| Zn [1, 5, 6] ?_
      refine nx_block_normal <| Zx <| Zg <| Zm Y ?_
      (refine op_v (p_add_nat (n := 1) Y Y ?_) ?_; (focus (omega)))
      refine Za Y <| Z0 <| Zn [5, 6, 1] ?_
      refine nx_againB (e' := [(5, _), (6, _)]) (m := _) (H' := _) (by exact ⟨i + 1, _, _, rfl, ⟨by omega, rowS_eq hra9 (by rw [filt_t hr hin, List.length_append]; rfl) (by rw [filt_t hr hin, rowCells_app]; rfl)⟩, rfl, rfl⟩)
     ·
      have hin : inB x r = false := decide_eq_false (by omega)
      refine at_skip <| nx_block_normal <| Zx <| Zg <| Zm Y ?_
      (refine op_v (p_add_nat (n := 1) Y Y ?_) ?_; (focus (omega)))
      refine Za Y <| Z0 <| Zn [5, 6, 1] ?_
      refine nx_againB (e' := [(5, _), (6, _)]) (m := _) (H' := _) (by exact ⟨i + 1, _, so, rfl, ⟨by omega, rowS_eq hro (by rw [filt_f hr hin]) (by rw [filt_f hr hin])⟩, rfl, rfl⟩)
    ·
     have hin : inB x r = false := decide_eq_false (by omega)
     refine op_skip Y rfl <| op_skip Y rfl <| op_skip Y rfl <| op_skip Y rfl <| Zv (p_pick_f Y Y) <| Z0 <| Zx <| at_else Y <| at_skip <| nx_block_normal <| Zx <| Zg <| Zm Y ?_
     (refine op_v (p_add_nat (n := 1) Y Y ?_) ?_; (focus (omega)))
     refine Za Y <| Z0 <| Zn [5, 6, 1] ?_
     refine nx_againB (e' := [(5, _), (6, _)]) (m := _) (H' := _) (by exact ⟨i + 1, _, so, rfl, ⟨by omega, rowS_eq hro (by rw [filt_f hr hin]) (by rw [filt_f hr hin])⟩, rfl, rfl⟩)
   case hl_3 =>
    exact each_nil
  ·
   have ei : i = x.rows.length := by omega
   subst ei
   rw [List.take_length] at hro ⊢
   refine at_exit <| Zt <| Zt <| nx_block_exit <| Zx <| Zq <| Zg <| Zm Y <| Za Y <| Za Y <| Z0 <| Zx <| at_ret ?_
   refine nx_end2 rfl results15 Y Y (by exact ⟨.slice qo _ co, so, by rw [decide_eq_true hcm], by rw [rows_t hcm]; exact hro, rfl⟩)

theorem r10_refuse (v : Value) (t c lo hi : Int) (h : ¬ (((0 ≤ t ∧ t < 4) ∧ 0 ≤ c ∧ c < 4) ∧ lo ≤ hi)) : DoesR Tryz.prog 13 #[v, .int .i64 t, .int .i64 c, .int .i64 lo, .int .i64 hi] [] (.tuple #[.agg #[.int .i64 0, .int .i64 0, .int .i64 0, .int .i64 0, .int .i64 0, .int .i64 0, .slice none 0 0, .slice none 0 0, .slice none 0 0], .int .i64 2]) := by
 refine spec_enter func13 rfl ntmps13 rfl ?_
 intro u R
 refine Zb [0, 1, 2, 3, 4] ?_
 refine Zq <| Zg <| Ze (w_alloc zeroValue37 (cs := #[_, _, _, _, _, _, _, _, _]) rfl) ?_
 rintro _ _ ⟨rb, rfl, rfl⟩
 refine Za Y <| Z0 <| Zx <| Zq <| Zq <| Zg <| Zm Y <| Zv (p_lss Y Y) <| Zm Y ?_
 refine ops_split (t := 26) Y rfl (fun k1 => ?_) (fun k1 => ?_)
 ·
  refine op_skip Y rfl <| op_skip Y rfl <| Zv (p_pick_t Y Y) <| Zm Y <| op_skip Y rfl <| op_skip Y rfl <| Zv (p_pick_t Y Y) <| Zm Y <| op_skip Y rfl <| op_skip Y rfl <| Zv (p_pick_t Y Y) <| Zm Y <| op_skip Y rfl <| op_skip Y rfl <| op_skip Y rfl <| Zv (p_pick_t Y Y) <| Z0 <| Zn [0, 1, 2, 3, 4, 10, 42] ?_
  refine Zx <| at_then Y <| Zq <| Zg <| Zv (p_build (vs := []) (cs := #[.int .i64 0, .int .i64 0, .int .i64 0, .int .i64 0, .int .i64 0, .int .i64 0, .slice none 0 0, .slice none 0 0, .slice none 0 0]) Y (run_build_struct (pl := #[(0, 1), (1, 1), (2, 1), (3, 1), (4, 1), (5, 1), (6, 1), (7, 1), (8, 1)]) zeroValue37 underlying37 (fun _ => by kernel_rfl) (by kernel_rfl))) ?_
  refine Ze (w_store_agg sizeOf37 Y Y (by simp [Value.oneCell', Value.cells]) (by repeat (first | exact Upd.here _ | apply Upd.there)) (by exact (rfl : _ = (#[.int .i64 0, .int .i64 0, .int .i64 0, .int .i64 0, .int .i64 0, .int .i64 0, .slice none 0 0, .slice none 0 0, .slice none 0 0] : Array Value))) (by first | rfl | (simp; done)) (by first | decide | exact Nat.le_refl _ | (simp; done) | (simp; omega)) (by exact free_zero _)) ?_
  rintro _ _ ⟨rfl, rfl⟩
  refine Za Y <| Z0 <| Zx <| at_ret <| Zt ?_
  refine nx_endct rfl results13 Y (by repeat (first | exact Has.here _ | apply Has.there)) (loadVar_agg isAgg37 sizeOf37 (by first | decide | exact Nat.le_refl _ | (simp; done) | (simp; omega)) (rfl)) Y (by exact ⟨rfl, rfl⟩)
 ·
  refine Zf Y Y <| op_wg Y (p_geq Y Y) rfl rfl ?_
  refine Zv (p_pick_f Y Y) <| Zm Y ?_
  refine ops_split (t := 30) Y rfl (fun k2 => ?_) (fun k2 => ?_)
  ·
   refine op_skip Y rfl <| op_skip Y rfl <| Zv (p_pick_t Y Y) <| Zm Y <| op_skip Y rfl <| op_skip Y rfl <| Zv (p_pick_t Y Y) <| Zm Y <| op_skip Y rfl <| op_skip Y rfl <| op_skip Y rfl <| Zv (p_pick_t Y Y) <| Z0 <| Zn [0, 1, 2, 3, 4, 10, 42] ?_
   refine Zx <| at_then Y <| Zq <| Zg <| Zv (p_build (vs := []) (cs := #[.int .i64 0, .int .i64 0, .int .i64 0, .int .i64 0, .int .i64 0, .int .i64 0, .slice none 0 0, .slice none 0 0, .slice none 0 0]) Y (run_build_struct (pl := #[(0, 1), (1, 1), (2, 1), (3, 1), (4, 1), (5, 1), (6, 1), (7, 1), (8, 1)]) zeroValue37 underlying37 (fun _ => by kernel_rfl) (by kernel_rfl))) ?_
   refine Ze (w_store_agg sizeOf37 Y Y (by simp [Value.oneCell', Value.cells]) (by repeat (first | exact Upd.here _ | apply Upd.there)) (by exact (rfl : _ = (#[.int .i64 0, .int .i64 0, .int .i64 0, .int .i64 0, .int .i64 0, .int .i64 0, .slice none 0 0, .slice none 0 0, .slice none 0 0] : Array Value))) (by first | rfl | (simp; done)) (by first | decide | exact Nat.le_refl _ | (simp; done) | (simp; omega)) (by exact free_zero _)) ?_
   rintro _ _ ⟨rfl, rfl⟩
   refine Za Y <| Z0 <| Zx <| at_ret <| Zt ?_
   refine nx_endct rfl results13 Y (by repeat (first | exact Has.here _ | apply Has.there)) (loadVar_agg isAgg37 sizeOf37 (by first | decide | exact Nat.le_refl _ | (simp; done) | (simp; omega)) (rfl)) Y (by exact ⟨rfl, rfl⟩)
  ·
   refine Zf Y Y <| op_wg Y (p_lss Y Y) rfl rfl ?_
   refine Zv (p_pick_f Y Y) <| Zm Y ?_
   refine ops_split (t := 34) Y rfl (fun k3 => ?_) (fun k3 => ?_)
   ·
    refine op_skip Y rfl <| op_skip Y rfl <| Zv (p_pick_t Y Y) <| Zm Y <| op_skip Y rfl <| op_skip Y rfl <| op_skip Y rfl <| Zv (p_pick_t Y Y) <| Z0 <| Zn [0, 1, 2, 3, 4, 10, 42] ?_
    refine Zx <| at_then Y <| Zq <| Zg <| Zv (p_build (vs := []) (cs := #[.int .i64 0, .int .i64 0, .int .i64 0, .int .i64 0, .int .i64 0, .int .i64 0, .slice none 0 0, .slice none 0 0, .slice none 0 0]) Y (run_build_struct (pl := #[(0, 1), (1, 1), (2, 1), (3, 1), (4, 1), (5, 1), (6, 1), (7, 1), (8, 1)]) zeroValue37 underlying37 (fun _ => by kernel_rfl) (by kernel_rfl))) ?_
    refine Ze (w_store_agg sizeOf37 Y Y (by simp [Value.oneCell', Value.cells]) (by repeat (first | exact Upd.here _ | apply Upd.there)) (by exact (rfl : _ = (#[.int .i64 0, .int .i64 0, .int .i64 0, .int .i64 0, .int .i64 0, .int .i64 0, .slice none 0 0, .slice none 0 0, .slice none 0 0] : Array Value))) (by first | rfl | (simp; done)) (by first | decide | exact Nat.le_refl _ | (simp; done) | (simp; omega)) (by exact free_zero _)) ?_
    rintro _ _ ⟨rfl, rfl⟩
    refine Za Y <| Z0 <| Zx <| at_ret <| Zt ?_
    refine nx_endct rfl results13 Y (by repeat (first | exact Has.here _ | apply Has.there)) (loadVar_agg isAgg37 sizeOf37 (by first | decide | exact Nat.le_refl _ | (simp; done) | (simp; omega)) (rfl)) Y (by exact ⟨rfl, rfl⟩)
   ·
    refine Zf Y Y <| op_wg Y (p_geq Y Y) rfl rfl ?_
    refine Zv (p_pick_f Y Y) <| Zm Y ?_
    refine ops_split (t := 38) Y rfl (fun k3 => ?_) (fun k3 => ?_)
    ·
     refine op_skip Y rfl <| op_skip Y rfl <| op_skip Y rfl <| Zv (p_pick_t Y Y) <| Z0 <| Zn [0, 1, 2, 3, 4, 10, 42] ?_
     refine Zx <| at_then Y <| Zq <| Zg <| Zv (p_build (vs := []) (cs := #[.int .i64 0, .int .i64 0, .int .i64 0, .int .i64 0, .int .i64 0, .int .i64 0, .slice none 0 0, .slice none 0 0, .slice none 0 0]) Y (run_build_struct (pl := #[(0, 1), (1, 1), (2, 1), (3, 1), (4, 1), (5, 1), (6, 1), (7, 1), (8, 1)]) zeroValue37 underlying37 (fun _ => by kernel_rfl) (by kernel_rfl))) ?_
     refine Ze (w_store_agg sizeOf37 Y Y (by simp [Value.oneCell', Value.cells]) (by repeat (first | exact Upd.here _ | apply Upd.there)) (by exact (rfl : _ = (#[.int .i64 0, .int .i64 0, .int .i64 0, .int .i64 0, .int .i64 0, .int .i64 0, .slice none 0 0, .slice none 0 0, .slice none 0 0] : Array Value))) (by first | rfl | (simp; done)) (by first | decide | exact Nat.le_refl _ | (simp; done) | (simp; omega)) (by exact free_zero _)) ?_
     rintro _ _ ⟨rfl, rfl⟩
     refine Za Y <| Z0 <| Zx <| at_ret <| Zt ?_
     refine nx_endct rfl results13 Y (by repeat (first | exact Has.here _ | apply Has.there)) (loadVar_agg isAgg37 sizeOf37 (by first | decide | exact Nat.le_refl _ | (simp; done) | (simp; omega)) (rfl)) Y (by exact ⟨rfl, rfl⟩)
    ·
     refine Zf Y Y <| Zf Y Y <| op_wg Y (p_gtr Y Y) rfl rfl ?_
     refine Zv (p_pick_f Y Y) <| Z0 <| Zn [0, 1, 2, 3, 4, 10, 42] ?_
     refine Zx ?_
     refine at_if Y (fun k4 => ?_) (fun k4 => ?_)
     ·
      refine Zq <| Zg <| Zv (p_build (vs := []) (cs := #[.int .i64 0, .int .i64 0, .int .i64 0, .int .i64 0, .int .i64 0, .int .i64 0, .slice none 0 0, .slice none 0 0, .slice none 0 0]) Y (run_build_struct (pl := #[(0, 1), (1, 1), (2, 1), (3, 1), (4, 1), (5, 1), (6, 1), (7, 1), (8, 1)]) zeroValue37 underlying37 (fun _ => by kernel_rfl) (by kernel_rfl))) ?_
      refine Ze (w_store_agg sizeOf37 Y Y (by simp [Value.oneCell', Value.cells]) (by repeat (first | exact Upd.here _ | apply Upd.there)) (by exact (rfl : _ = (#[.int .i64 0, .int .i64 0, .int .i64 0, .int .i64 0, .int .i64 0, .int .i64 0, .slice none 0 0, .slice none 0 0, .slice none 0 0] : Array Value))) (by first | rfl | (simp; done)) (by first | decide | exact Nat.le_refl _ | (simp; done) | (simp; omega)) (by exact free_zero _)) ?_
      rintro _ _ ⟨rfl, rfl⟩
      refine Za Y <| Z0 <| Zx <| at_ret <| Zt ?_
      refine nx_endct rfl results13 Y (by repeat (first | exact Has.here _ | apply Has.there)) (loadVar_agg isAgg37 sizeOf37 (by first | decide | exact Nat.le_refl _ | (simp; done) | (simp; omega)) (rfl)) Y (by exact ⟨rfl, rfl⟩)
     ·
      exfalso; omega

theorem prove_refuse (q : Addr) (t c lo hi : Int) (h : ¬ (((0 ≤ t ∧ t < 4) ∧ 0 ≤ c ∧ c < 4) ∧ lo ≤ hi)) : DoesR Tryz.prog 12 #[.pointer (some q), .int .i64 t, .int .i64 c, .int .i64 lo, .int .i64 hi] [] (.tuple #[.agg #[.int .i64 0, .int .i64 0, .int .i64 0, .int .i64 0, .int .i64 0, .int .i64 0, .slice none 0 0, .slice none 0 0, .slice none 0 0], .int .i64 2]) := by
 refine spec_enter func12 rfl ntmps12 rfl ?_
 intro u R
 refine Zb [0, 1, 2, 3, 4] ?_
 refine Zq <| Zg <| Ze (w_box Y (cs := #[_]) rfl) ?_
 rintro _ _ ⟨b1, rfl, rfl⟩
 refine Ze (w_box Y (cs := #[_]) rfl) ?_
 rintro _ _ ⟨b2, rfl, rfl⟩
 refine Ze (w_box Y (cs := #[_]) rfl) ?_
 rintro _ _ ⟨b3, rfl, rfl⟩
 refine Ze (w_alloc zeroValue37 (cs := #[_, _, _, _, _, _, _, _, _]) rfl) ?_
 rintro _ _ ⟨b4, rfl, rfl⟩
 refine Za Y <| Z0 <| Zx <| Zq <| at_block <| Zq <| Zg <| Zm Y <| Zv (p_eql_ptr_nil underlying25 Y Y) <| Za Y <| Z0 <| Zx ?_
 refine at_if_bool Y (fun h1 => ?_) (fun h1 => ?_)
 ·
  cases h1
 ·
  refine Zq <| Zg <| Zm Y <| Zl isAgg3 Y ?_
  refine Zr [_, _] Y call37 Y rfl (exists_spec t c) ?_
  rintro _ _ ⟨rfl, rfl⟩
  refine Zv (p_not_dec Y) <| Zm Y ?_
  refine ops_split (t := 29) Y rfl (fun h2 => ?_) (fun h2 => ?_)
  ·
   refine op_skip Y rfl <| op_skip Y rfl <| op_skip Y rfl <| Zv (p_pick_t Y Y) <| Za Y <| Z0 <| Zn [0, 1, 7, 8, 9, 10, 24] ?_
   refine Zx <| at_then Y <| Zq <| Zg <| Zv (p_build (vs := []) (cs := #[_, _, _, _, _, _, _, _, _]) Y (run_build_struct (pl := #[(0, 1), (1, 1), (2, 1), (3, 1), (4, 1), (5, 1), (6, 1), (7, 1), (8, 1)]) zeroValue37 underlying37 (fun _ => by kernel_rfl) rfl)) ?_
   refine Ze (w_store_agg sizeOf37 Y Y (by (simp [Value.oneCell']; done)) (by repeat (first | exact Upd.here _ | apply Upd.there)) (by rfl) (by first | rfl | (simp; done)) (by first | decide | exact Nat.le_refl _ | (simp; done) | (simp; omega)) (by exact free_zero _)) ?_
   rintro _ _ ⟨rfl, rfl⟩
   refine Za Y <| Z0 <| Zx <| at_ret <| nx_block_ret <| Zt ?_
   refine nx_endct rfl results12 Y (by repeat (first | exact Has.here _ | apply Has.there)) (loadVar_agg isAgg37 sizeOf37 (by first | decide | exact Nat.le_refl _ | (simp; done) | (simp; omega)) (rfl)) Y (by exact ⟨rfl, rfl⟩)
  ·
   refine op_rg Y (by repeat (first | exact Has.here _ | apply Has.there)) (p_load isAgg3 Y (by rfl)) rfl rfl ?_
   refine op_rg Y (by repeat (first | exact Has.here _ | apply Has.there)) (p_load isAgg3 Y (by rfl)) rfl rfl ?_
   refine op_wg Y (p_gtr Y Y) rfl rfl ?_
   refine Zv (p_pick_f Y Y) <| Za Y <| Z0 <| Zn [0, 1, 7, 8, 9, 10, 24] ?_
   refine Zx ?_
   refine at_if Y (fun h3 => ?_) (fun h3 => ?_)
   ·
    refine Zq <| Zg <| Zv (p_build (vs := []) (cs := #[_, _, _, _, _, _, _, _, _]) Y (run_build_struct (pl := #[(0, 1), (1, 1), (2, 1), (3, 1), (4, 1), (5, 1), (6, 1), (7, 1), (8, 1)]) zeroValue37 underlying37 (fun _ => by kernel_rfl) rfl)) ?_
    refine Ze (w_store_agg sizeOf37 Y Y (by (simp [Value.oneCell']; done)) (by repeat (first | exact Upd.here _ | apply Upd.there)) (by rfl) (by first | rfl | (simp; done)) (by first | decide | exact Nat.le_refl _ | (simp; done) | (simp; omega)) (by exact free_zero _)) ?_
    rintro _ _ ⟨rfl, rfl⟩
    refine Za Y <| Z0 <| Zx <| at_ret <| nx_block_ret <| Zt ?_
    refine nx_endct rfl results12 Y (by repeat (first | exact Has.here _ | apply Has.there)) (loadVar_agg isAgg37 sizeOf37 (by first | decide | exact Nat.le_refl _ | (simp; done) | (simp; omega)) (rfl)) Y (by exact ⟨rfl, rfl⟩)
   ·
    exfalso; omega

set_option maxHeartbeats 1000000 in
theorem r10_same {M : List Chunk} {va vb : Value} {a b : RP} (ha : RPIn M va a) (hb : RPIn M vb b) : DoesR Tryz.prog 16 #[va, vb] [M] (.bool (decide (a = b))) := by
 have hml : maxLen = 9223372036854775807 := rfl
 obtain ⟨vr1, vp1, vt1, rfl, hR1, hP1, hT1⟩ := ha
 obtain ⟨vr2, vp2, vt2, rfl, hR2, hP2, hT2⟩ := hb
 obtain ⟨pp1, cp1, rfl, hl1, hg1⟩ := id hP1
 obtain ⟨pp2, cp2, rfl, hl2, hg2⟩ := id hP2
 refine spec_enter func16 rfl ntmps16 rfl ?_
 intro u R
 refine Zb [0, 1] ?_
 refine Zq <| Zg <| Ze (w_box Y (cs := #[_, _, _, _, _, _, _, _, _]) rfl) ?_
 rintro _ _ ⟨b1, rfl, rfl⟩
 refine Ze (w_box Y (cs := #[_, _, _, _, _, _, _, _, _]) rfl) ?_
 rintro _ _ ⟨b2, rfl, rfl⟩
 refine Za Y <| Z0 <| Zx <| Zq <| Zq <| Zg <| Zh 0 underlying37 rfl rfl sizeOf3 Y <| Zl isAgg3 Y ?_
 refine Zh 0 underlying37 rfl rfl sizeOf3 Y <| Zl isAgg3 Y ?_
 refine Zv (p_neq Y Y) <| Zm Y ?_
 refine ops_split (t := 12) Y rfl (fun k1 => ?_) (fun k1 => ?_)
 ·
  refine op_skip Y rfl <| op_skip Y rfl <| op_skip Y rfl <| op_skip Y rfl <| op_skip Y rfl <| Zv (p_pick_t Y Y) <| Zm Y <| op_skip Y rfl <| op_skip Y rfl <| op_skip Y rfl <| op_skip Y rfl <| op_skip Y rfl <| Zv (p_pick_t Y Y) <| Zm Y <| op_skip Y rfl <| op_skip Y rfl <| op_skip Y rfl <| op_skip Y rfl <| op_skip Y rfl <| Zv (p_pick_t Y Y) <| Zm Y <| op_skip Y rfl <| op_skip Y rfl <| op_skip Y rfl ?_
  refine op_skip Y rfl <| op_skip Y rfl <| Zv (p_pick_t Y Y) <| Zm Y <| op_skip Y rfl <| op_skip Y rfl <| op_skip Y rfl <| op_skip Y rfl <| op_skip Y rfl <| Zv (p_pick_t Y Y) <| Zm Y <| op_skip Y rfl <| op_skip Y rfl <| op_skip Y rfl <| op_skip Y rfl <| op_skip Y rfl <| op_skip Y rfl <| op_skip Y rfl <| Zv (p_pick_t Y Y) <| Z0 <| Zn [2, 3, 55] ?_
  refine Zx <| at_then Y <| Zq <| Zg <| Za Y <| Z0 <| Zx <| at_ret <| Zt ?_
  refine nx_end1 rfl results16 Y (by exact ⟨eq_false (fun e => by subst e; exact absurd rfl k1), rfl⟩)
 ·
  refine op_wg Y (p_fieldAddr0 (off := 1) underlying37 rfl rfl sizeOf3 Y) rfl rfl ?_
  refine op_rg Y (by repeat (first | exact Has.here _ | apply Has.there)) (p_load isAgg3 Y (by rfl)) rfl rfl ?_
  refine op_wg Y (p_fieldAddr0 (off := 1) underlying37 rfl rfl sizeOf3 Y) rfl rfl ?_
  refine op_rg Y (by repeat (first | exact Has.here _ | apply Has.there)) (p_load isAgg3 Y (by rfl)) rfl rfl ?_
  refine op_wg Y (p_neq Y Y) rfl rfl ?_
  refine Zv (p_pick_f Y Y) <| Zm Y ?_
  refine ops_split (t := 19) Y rfl (fun k2 => ?_) (fun k2 => ?_)
  ·
   refine op_skip Y rfl <| op_skip Y rfl <| op_skip Y rfl <| op_skip Y rfl <| op_skip Y rfl <| Zv (p_pick_t Y Y) <| Zm Y <| op_skip Y rfl <| op_skip Y rfl <| op_skip Y rfl <| op_skip Y rfl <| op_skip Y rfl <| Zv (p_pick_t Y Y) <| Zm Y <| op_skip Y rfl <| op_skip Y rfl <| op_skip Y rfl <| op_skip Y rfl <| op_skip Y rfl <| Zv (p_pick_t Y Y) <| Zm Y <| op_skip Y rfl <| op_skip Y rfl <| op_skip Y rfl ?_
   refine op_skip Y rfl <| op_skip Y rfl <| Zv (p_pick_t Y Y) <| Zm Y <| op_skip Y rfl <| op_skip Y rfl <| op_skip Y rfl <| op_skip Y rfl <| op_skip Y rfl <| op_skip Y rfl <| op_skip Y rfl <| Zv (p_pick_t Y Y) <| Z0 <| Zn [2, 3, 55] ?_
   refine Zx <| at_then Y <| Zq <| Zg <| Za Y <| Z0 <| Zx <| at_ret <| Zt ?_
   refine nx_end1 rfl results16 Y (by exact ⟨eq_false (fun e => by subst e; exact absurd rfl k2), rfl⟩)
  ·
   refine op_wg Y (p_fieldAddr0 (off := 2) underlying37 rfl rfl sizeOf3 Y) rfl rfl ?_
   refine op_rg Y (by repeat (first | exact Has.here _ | apply Has.there)) (p_load isAgg3 Y (by rfl)) rfl rfl ?_
   refine op_wg Y (p_fieldAddr0 (off := 2) underlying37 rfl rfl sizeOf3 Y) rfl rfl ?_
   refine op_rg Y (by repeat (first | exact Has.here _ | apply Has.there)) (p_load isAgg3 Y (by rfl)) rfl rfl ?_
   refine op_wg Y (p_neq Y Y) rfl rfl ?_
   refine Zv (p_pick_f Y Y) <| Zm Y ?_
   refine ops_split (t := 26) Y rfl (fun k3 => ?_) (fun k3 => ?_)
   ·
    refine op_skip Y rfl <| op_skip Y rfl <| op_skip Y rfl <| op_skip Y rfl <| op_skip Y rfl <| Zv (p_pick_t Y Y) <| Zm Y <| op_skip Y rfl <| op_skip Y rfl <| op_skip Y rfl <| op_skip Y rfl <| op_skip Y rfl <| Zv (p_pick_t Y Y) <| Zm Y <| op_skip Y rfl <| op_skip Y rfl <| op_skip Y rfl <| op_skip Y rfl <| op_skip Y rfl <| Zv (p_pick_t Y Y) <| Zm Y <| op_skip Y rfl <| op_skip Y rfl <| op_skip Y rfl ?_
    refine op_skip Y rfl <| op_skip Y rfl <| op_skip Y rfl <| op_skip Y rfl <| Zv (p_pick_t Y Y) <| Z0 <| Zn [2, 3, 55] ?_
    refine Zx <| at_then Y <| Zq <| Zg <| Za Y <| Z0 <| Zx <| at_ret <| Zt ?_
    refine nx_end1 rfl results16 Y (by exact ⟨eq_false (fun e => by subst e; exact absurd rfl k3), rfl⟩)
   ·
    refine op_wg Y (p_fieldAddr0 (off := 3) underlying37 rfl rfl sizeOf3 Y) rfl rfl ?_
    refine op_rg Y (by repeat (first | exact Has.here _ | apply Has.there)) (p_load isAgg3 Y (by rfl)) rfl rfl ?_
    refine op_wg Y (p_fieldAddr0 (off := 3) underlying37 rfl rfl sizeOf3 Y) rfl rfl ?_
    refine op_rg Y (by repeat (first | exact Has.here _ | apply Has.there)) (p_load isAgg3 Y (by rfl)) rfl rfl ?_
    refine op_wg Y (p_neq Y Y) rfl rfl ?_
    refine Zv (p_pick_f Y Y) <| Zm Y ?_
    refine ops_split (t := 33) Y rfl (fun k4 => ?_) (fun k4 => ?_)
    ·
     refine op_skip Y rfl <| op_skip Y rfl <| op_skip Y rfl <| op_skip Y rfl <| op_skip Y rfl <| Zv (p_pick_t Y Y) <| Zm Y <| op_skip Y rfl <| op_skip Y rfl <| op_skip Y rfl <| op_skip Y rfl <| op_skip Y rfl <| Zv (p_pick_t Y Y) <| Zm Y <| op_skip Y rfl <| op_skip Y rfl <| op_skip Y rfl <| op_skip Y rfl <| op_skip Y rfl <| op_skip Y rfl <| op_skip Y rfl <| Zv (p_pick_t Y Y) <| Z0 <| Zn [2, 3, 55] ?_
     refine Zx <| at_then Y <| Zq <| Zg <| Za Y <| Z0 <| Zx <| at_ret <| Zt ?_
     refine nx_end1 rfl results16 Y (by exact ⟨eq_false (fun e => by subst e; exact absurd rfl k4), rfl⟩)
    ·
     refine op_wg Y (p_fieldAddr0 (off := 4) underlying37 rfl rfl sizeOf3 Y) rfl rfl ?_
     refine op_rg Y (by repeat (first | exact Has.here _ | apply Has.there)) (p_load isAgg3 Y (by rfl)) rfl rfl ?_
     refine op_wg Y (p_fieldAddr0 (off := 4) underlying37 rfl rfl sizeOf3 Y) rfl rfl ?_
     refine op_rg Y (by repeat (first | exact Has.here _ | apply Has.there)) (p_load isAgg3 Y (by rfl)) rfl rfl ?_
     refine op_wg Y (p_neq Y Y) rfl rfl ?_
     refine Zv (p_pick_f Y Y) <| Zm Y ?_
     refine ops_split (t := 40) Y rfl (fun k5 => ?_) (fun k5 => ?_)
     ·
      refine op_skip Y rfl <| op_skip Y rfl <| op_skip Y rfl <| op_skip Y rfl <| op_skip Y rfl <| Zv (p_pick_t Y Y) <| Zm Y <| op_skip Y rfl <| op_skip Y rfl <| op_skip Y rfl <| op_skip Y rfl <| op_skip Y rfl <| op_skip Y rfl <| op_skip Y rfl <| Zv (p_pick_t Y Y) <| Z0 <| Zn [2, 3, 55] ?_
      refine Zx <| at_then Y <| Zq <| Zg <| Za Y <| Z0 <| Zx <| at_ret <| Zt ?_
      refine nx_end1 rfl results16 Y (by exact ⟨eq_false (fun e => by subst e; exact absurd rfl k5), rfl⟩)
     ·
      refine op_wg Y (p_fieldAddr0 (off := 5) underlying37 rfl rfl sizeOf3 Y) rfl rfl ?_
      refine op_rg Y (by repeat (first | exact Has.here _ | apply Has.there)) (p_load isAgg3 Y (by rfl)) rfl rfl ?_
      refine op_wg Y (p_fieldAddr0 (off := 5) underlying37 rfl rfl sizeOf3 Y) rfl rfl ?_
      refine op_rg Y (by repeat (first | exact Has.here _ | apply Has.there)) (p_load isAgg3 Y (by rfl)) rfl rfl ?_
      refine op_wg Y (p_neq Y Y) rfl rfl ?_
      refine Zv (p_pick_f Y Y) <| Zm Y ?_
      refine ops_split (t := 47) Y rfl (fun k6 => ?_) (fun k6 => ?_)
      ·
       refine op_skip Y rfl <| op_skip Y rfl <| op_skip Y rfl <| op_skip Y rfl <| op_skip Y rfl <| op_skip Y rfl <| op_skip Y rfl <| Zv (p_pick_t Y Y) <| Z0 <| Zn [2, 3, 55] ?_
       refine Zx <| at_then Y <| Zq <| Zg <| Za Y <| Z0 <| Zx <| at_ret <| Zt ?_
       refine nx_end1 rfl results16 Y (by exact ⟨eq_false (fun e => by subst e; exact absurd rfl k6), rfl⟩)
      ·
       refine op_wg Y (p_fieldAddr0 (off := 7) underlying37 rfl rfl sizeOf34 Y) rfl rfl ?_
       refine op_rg Y (by repeat (first | exact Has.here _ | apply Has.there)) (p_load isAgg34 Y (by rfl)) rfl rfl ?_
       refine op_wg Y (p_len_slice underlying34 Y) rfl rfl ?_
       refine op_wg Y (p_fieldAddr0 (off := 7) underlying37 rfl rfl sizeOf34 Y) rfl rfl ?_
       refine op_rg Y (by repeat (first | exact Has.here _ | apply Has.there)) (p_load isAgg34 Y (by rfl)) rfl rfl ?_
       refine op_wg Y (p_len_slice underlying34 Y) rfl rfl ?_
       refine op_wg Y (p_neq_nat Y Y) rfl rfl ?_
       refine Zv (p_pick_f Y Y) <| Z0 <| Zn [2, 3, 55] ?_
       refine Zx ?_
       refine at_if Y (fun k7 => ?_) (fun k7 => ?_)
       ·
        refine Zq <| Zg <| Za Y <| Z0 <| Zx <| at_ret <| Zt ?_
        refine nx_end1 rfl results16 Y (by exact ⟨eq_false (fun e => by subst e; exact absurd rfl k7), rfl⟩)
       ·
        have hnum : a.tb = b.tb ∧ a.cl = b.cl ∧ a.lo = b.lo ∧ a.hi = b.hi ∧ a.ct = b.ct ∧ a.fi = b.fi := by omega
        have hpl : a.paths.length = b.paths.length := by omega
        refine at_skip <| Zx <| Zq <| Zq <| Zg <| Za Y <| Z0 <| Zx <| at_block <| Zb [5, 2, 3] ?_
        refine at_loopB (e0 := [(5, _)]) (H0 := _) (n := _) (fun m e H => ∃ (i : Nat), m = a.paths.length - i ∧ (i ≤ a.paths.length ∧ ∀ j, j < i → a.paths[j]? = b.paths[j]?) ∧ e = [(5, .int .i64 (i : Int))] ∧ H = []) (by exact ⟨0, rfl, ⟨Nat.zero_le _, by intro j hj; omega⟩, rfl, rfl⟩) (by repeat (first | exact Pull.nil _ | (apply Pull.cons; (focus (repeat (first | exact One.here _ _ | apply One.there)))))) ?_
        rintro _ _ _ ⟨i, rfl, ⟨hi, hall⟩, rfl, rfl⟩
        refine Zq <| Zq <| Zg <| Zm Y <| Zh 7 underlying37 rfl rfl sizeOf34 Y <| Zl isAgg34 Y ?_
        refine Zv (p_len_slice underlying34 Y) <| Zv (p_lss_nat Y Y) <| Z0 <| Zx ?_
        refine at_if Y (fun hlt => ?_) (fun hlt => ?_)
        ·
         obtain ⟨x, hx⟩ : ∃ x, a.paths[i]? = some x := ⟨_, List.getElem?_eq_getElem (by omega)⟩
         obtain ⟨y, hy⟩ : ∃ y, b.paths[i]? = some y := ⟨_, List.getElem?_eq_getElem (by omega)⟩
         obtain ⟨qx, cx, hux, g1, off1, cur1, T1, zz1, rfl, hm1, hex1⟩ := hg1 i x hx
         obtain ⟨qy, cy, huy, g2, off2, cur2, T2, zz2, rfl, hm2, hex2⟩ := hg2 i y hy
         refine at_skip <| Zx <| Zq <| at_block <| Zq <| at_draw (n := 12) (0 :: 1 :: 0 :: 7 :: 15 :: 0 :: 32 :: 0 :: 224 :: 480 :: 1023 :: 2047 :: []) 1024 (by kernel_rfl) (by kernel_rfl) rfl ?_
         refine Zi 1 0 rfl (p_fieldAddr0 (off := 7) underlying37 rfl rfl sizeOf34 Y) <| Zj 3 1 rfl isAgg34 Y ?_
         refine Zi 7 2 rfl (p_move Y) ?_
         (refine lin_v (D' := 15) 3 (p_indexAddr_nat1 underlying34 sizeOf35 Y Y ?_) ?_; (focus (first | omega | decide | (simp; done))))
         refine lin_rm (b := g1) (x := .cells cur1 T1 zz1) (D' := 31) 4 rfl rfl rfl (by simp [hm1]) (p_load isAgg35 Y (by exact hex1)) ?_
         refine Zi 63 5 rfl (p_fieldAddr0 (off := 7) underlying37 rfl rfl sizeOf34 Y) <| Zj 127 6 rfl isAgg34 Y ?_
         refine Zi 255 7 rfl (p_move Y) ?_
         (refine lin_v (D' := 511) 8 (p_indexAddr_nat1 underlying34 sizeOf35 Y Y ?_) ?_; (focus (first | omega | decide | (simp; done))))
         refine lin_rm (b := g2) (x := .cells cur2 T2 zz2) (D' := 1023) 9 rfl rfl rfl (by simp [hm2]) (p_load isAgg35 Y (by exact hex2)) ?_
         refine Zz (l := [10]) ?_
         refine Zy 1023 2047 [9, 6, 4, 1] [false, false, false, false] [] rfl Y rfl rfl rfl rfl (Zu [_, _] Y call52 Y rfl (r2_same hux huy)) ?hk_9 (fun _ _ h => h.elim) ?hl_9
         case hk_9 =>
          rintro _ _ ⟨rfl, rfl⟩
          refine ⟨keep_nil, ?_⟩
          refine Zi 4095 11 rfl (p_assign Y) <| lin_nil ?_
          refine Zn [2, 3, 5, 6] ?_
          refine Zx <| Zq <| Zg <| Zm Y <| Zv (p_not_dec Y) <| Z0 <| Zx ?_
          refine at_if Y (fun hd => ?_) (fun hd => ?_)
          ·
           refine Zq <| Zg <| Za Y <| Z0 <| Zx <| at_ret <| nx_block_ret <| Zt <| Zt <| nx_block_ret <| Zt ?_
           refine nx_end1 rfl results16 Y (by exact ⟨eq_false (fun e => by rw [e, hy] at hx; injection hx with hx; exact hd hx.symm), rfl⟩)
          ·
           have heq : x = y := Classical.not_not.1 hd
           refine at_skip <| nx_block_normal <| Zx <| Zg <| Zm Y ?_
           (refine op_v (p_add_nat (n := 1) Y Y ?_) ?_; (focus (omega)))
           refine Za Y <| Z0 <| Zn [5, 2, 3] ?_
           refine nx_againB (e' := [(5, _)]) (m := _) (H' := _) (by exact ⟨i + 1, rfl, ⟨by omega, fun j hj => by rcases Nat.lt_or_ge j i with h9 | h9; exact hall j h9; obtain rfl : j = i := (by omega); rw [hx, hy]; exact congrArg some heq⟩, rfl, rfl⟩)
         case hl_9 =>
          exact each_nil
        ·
         have hpe : a.paths = b.paths := list_eq hpl (fun j hj => hall j (by omega))
         refine at_exit <| Zt <| Zt <| nx_block_exit <| Zx <| Zq <| Zg <| Zh 6 underlying37 rfl rfl sizeOf33 Y <| Zl isAgg33 Y ?_
         refine Zh 6 underlying37 rfl rfl sizeOf33 Y <| Zl isAgg33 Y ?_
         refine Zr [_, _] Y call17 Y rfl (r4_same hR1 hR2) ?_
         rintro _ _ ⟨rfl, rfl⟩
         refine Zm Y ?_
         refine ops_split (t := 81) Y rfl (fun h2 => ?_) (fun h2 => ?_)
         ·
          refine op_wg Y (p_fieldAddr0 (off := 8) underlying37 rfl rfl sizeOf35 Y) rfl rfl ?_
          refine op_rg Y (by repeat (first | exact Has.here _ | apply Has.there)) (p_load isAgg35 Y (by rfl)) rfl rfl ?_
          refine op_wg Y (p_fieldAddr0 (off := 8) underlying37 rfl rfl sizeOf35 Y) rfl rfl ?_
          refine op_rg Y (by repeat (first | exact Has.here _ | apply Has.there)) (p_load isAgg35 Y (by rfl)) rfl rfl ?_
          refine Zr [_, _] Y call52 Y rfl (r2_same hT1 hT2) ?_
          rintro _ _ ⟨rfl, rfl⟩
          refine Zv (p_pick_t Y Y) <| Za Y <| Z0 <| Zn [4] ?_
          refine Zx <| at_ret ?_
          refine nx_end1 rfl results16 Y (by exact ⟨by exact dec_bool ⟨fun h9 => rp_eq.2 ⟨hpe, hnum, h2, h9⟩, fun h9 => (rp_eq.1 h9).2.2.2⟩, rfl⟩)
         ·
          refine op_skip Y rfl <| op_skip Y rfl <| op_skip Y rfl <| op_skip Y rfl <| op_skip Y rfl <| Zv (p_pick_f Y Y) <| Za Y <| Z0 <| Zn [4] ?_
          refine Zx <| at_ret ?_
          refine nx_end1 rfl results16 Y (by exact ⟨by exact eq_false (fun e => h2 (rp_eq.1 e).2.2.1), rfl⟩)

end Go.Proofs.YtjeepldonhgohaaGreatDoor
