/- The reference of layer 10: Rows, Same. -/
/- Same over two memories; Prove for any numbers. -/
/- Parts of the order of a table that are proofs; parts of slices. -/
/- What a root determines, unless two different strings have the same digest. -/
/- Damaged proofs. -/
/- The reference of layer 10: Hashed, All, Collided. -/
import Derived.Test.YtjeepldonhgohaaGreatDoorEz
import Derived.Test.YtjeepldonhgohaaGreatDoorRt4
import Derived.Test.YtjeepldonhgohaaGreatDoorTkB
import Derived.Test.YtjeepldonhgohaaGreatDoorRt8
namespace Go.Proofs.YtjeepldonhgohaaGreatDoor
open Go.Proofs.Tryz
open Go Go.RowKit Gw
set_option linter.unusedVariables false
set_option linter.unusedSimpArgs false
set_option maxRecDepth 100000
attribute [local irreducible] Gw.At Gw.Nx Gw.Ops
set_option maxHeartbeats 1000000 in
theorem r10_rows {M : List Chunk} {v : Value} {x : RP} (hv : RPIn M v x) : Does Tryz.prog 15 #[v] [M] (fun r H' => ∃ vr sr, r = .tuple #[vr, .bool (decide (Comp x))] ∧ RowS 5 74 vr (rowsT x).length (rowCells (rowsT x)) sr ∧ H' = [sr, M]) := by
 have hml : maxLen = 9223372036854775807 := rfl
 obtain ⟨vr, vp, vt, rfl, hR, hP, hT⟩ := id hv
 obtain ⟨p, cap, e9, hl, hg⟩ := id hR
 subst e9
 refine spec_enter func15 rfl ntmps15 rfl ?_
 intro u R
 refine Zb [0] ?_
 refine Zq <| Zg <| Ze (w_box Y (cs := #[_, _, _, _, _, _, _, _, _]) rfl) ?_
 rintro _ _ ⟨pb, rfl, rfl⟩
 refine Za Y <| Za Y <| Z0 <| Zx <| Zq <| Zg <| Zo (by repeat (first | exact Has.here _ | apply Has.there)) (p_load_agg (cs := #[.int .i64 x.tb, .int .i64 x.cl, .int .i64 x.lo, .int .i64 x.hi, .int .i64 x.ct, .int .i64 x.fi, .slice p x.rows.length cap, vp, vt]) isAgg37 sizeOf37 Y (by first | omega | decide | (simp; done)) (by rfl)) ?_
 refine Zr [_] Y call51 Y rfl (r10_complete hv) ?_
 rintro _ _ ⟨rfl, rfl⟩
 refine Za Y <| Z0 <| Zx <| Zq <| Zq <| Zg <| Zm Y <| Zv (p_not_dec Y) <| Z0 <| Zx ?_
 refine at_if Y (fun hcm => ?_) (fun hcm => ?_)
 ·
  refine at_nil ?_
  refine Zq <| Zg <| Za Y <| Za Y <| Z0 <| Zx <| at_ret <| Zt ?_
  refine nx_end2 rfl results15 Y Y (by exact ⟨.slice none 0 0, [], by rw [decide_eq_false hcm], by rw [rows_f hcm]; exact rowS_nil 5 _, rfl⟩)
 ·
  have hcm := Classical.not_not.1 hcm
  have hc1 := hcm.tc
  have hc2 := hcm.ct
  have hc3 := hcm.n
  have hc4 := hcm.fi
  refine at_skip <| Zx <| Zq <| Zg <| Za Y <| Z0 <| Zx <| Zq <| Zq <| Zg <| Za Y <| Z0 <| Zx <| at_block <| at_nil ?_
  refine Zb [5, 6, 1] ?_
  refine at_loopB (e0 := [(5, _), (6, _)]) (H0 := _) (n := _) (fun m e H => ∃ (i : Nat) (vo : Value) (so : List Chunk), m = x.rows.length - i ∧ (i ≤ x.rows.length ∧ RowS 5 74 vo ((x.rows.take i).filter (inB x)).length (rowCells ((x.rows.take i).filter (inB x))) so) ∧ e = [(5, vo), (6, .int .i64 (i : Int))] ∧ H = [so]) (by exact ⟨0, .slice none 0 0, [], rfl, ⟨Nat.zero_le _, by rw [List.take_zero]; exact rowS_nil 5 _⟩, rfl, rfl⟩) (by repeat (first | exact Pull.nil _ | (apply Pull.cons; (focus (repeat (first | exact One.here _ _ | apply One.there)))))) ?_
  rintro _ _ _ ⟨i, vo, so, rfl, ⟨hi, hro⟩, rfl, rfl⟩
  obtain ⟨qo, co, rfl⟩ := hro.form
  have hfl : ((x.rows.take i).filter (inB x)).length ≤ i := Nat.le_trans (List.length_filter_le _ _) (List.length_take_le _ _)
  refine Zq <| Zq <| Zg <| Zm Y <| Zh 6 underlying37 rfl rfl sizeOf33 Y <| Zl isAgg33 Y ?_
  refine Zv (p_len_slice underlying33 Y) <| Zv (p_lss_nat Y Y) <| Z0 <| Zx ?_
  refine at_if Y (fun hlt => ?_) (fun hlt => ?_)
  ·
   obtain ⟨r, hr⟩ : ∃ r, x.rows[i]? = some r := ⟨_, List.getElem?_eq_getElem hlt⟩
   obtain ⟨g1, off1, cur1, T1, zz1, rfl, hm1, hsz1, hex1⟩ := hg i r hr
   refine at_skip <| Zx <| Zq <| at_block <| Zq <| at_draw (n := 9) (0 :: 1 :: 0 :: 7 :: 15 :: 0 :: 32 :: 127 :: 255 :: []) 128 (by kernel_rfl) (by kernel_rfl) rfl ?_
   refine Zi 1 0 rfl (p_fieldAddr0 (off := 6) underlying37 rfl rfl sizeOf33 Y) <| Zj 3 1 rfl isAgg33 Y ?_
   refine Zi 7 2 rfl (p_move Y) ?_
   (refine lin_v (D' := 15) 3 (p_indexAddr_nat underlying33 sizeOf74 Y Y ?_) ?_; (focus (first | omega | decide | (simp; done))))
   refine lin_rm (b := g1) (x := .cells cur1 T1 zz1) (D' := 31) 4 rfl rfl rfl (by simp [hm1]) (p_load_agg (cs := #[.int .i64 r.t, .int .i64 r.k, .int .i64 r.v.a, .int .i64 r.v.b, .int .i64 r.v.c]) isAgg74 sizeOf74 Y (by omega) hex1) ?_
   refine Zi 63 5 rfl (p_fieldAddr0 (off := 1) underlying37 rfl rfl sizeOf3 Y) <| Zj 127 6 rfl isAgg3 Y ?_
   refine Zz (l := [7]) ?_
   refine Zy 127 255 [6, 4, 1] [false, false, false] [] rfl Y rfl rfl rfl rfl (Zu [_, _] Y call48 Y rfl (r3_valueI r x.cl (by omega))) ?hk_3 (fun _ _ h => h.elim) ?hl_3
   case hk_3 =>
    rintro _ _ ⟨rfl, rfl⟩
    refine ⟨keep_nil, ?_⟩
    refine Zi 511 8 rfl (p_assign Y) <| lin_nil ?_
    refine Zn [1, 5, 6, 7] ?_
    refine Zx <| Zq <| Zg <| Zm Y <| Zh 2 underlying37 rfl rfl sizeOf3 Y <| Zl isAgg3 Y ?_
    refine Zv (p_geq Y Y) <| Zm Y ?_
    refine ops_split (t := 31) Y rfl (fun hg1 => ?_) (fun hg1 => ?_)
    ·
     refine Zf Y Y <| Yf 3 underlying37 rfl rfl sizeOf3 Y <| Yl isAgg3 Y ?_
     refine Yg (p_leq Y Y) <| Zv (p_pick_t Y Y) <| Z0 <| Zx ?_
     refine at_if Y (fun hg2 => ?_) (fun hg2 => ?_)
     ·
      have hin : inB x r = true := decide_eq_true (by omega)
      refine Zg <| Zm Y <| Zh 6 underlying37 rfl rfl sizeOf33 Y <| Zl isAgg33 Y ?_
      refine Zm Y ?_
      (refine op_v (p_indexAddr_nat underlying33 sizeOf74 Y Y ?_) ?_; (focus (first | omega | decide | (simp; done))))
      refine op_rm (cs := [(g1, .cells cur1 T1 zz1)]) (by simp [hm1]) (p_load_agg (cs := #[.int .i64 r.t, .int .i64 r.k, .int .i64 r.v.a, .int .i64 r.v.b, .int .i64 r.v.c]) isAgg74 sizeOf74 Y (by omega) hex1) rfl rfl ?_
      refine Ze (w_buildSlice (vs := [_]) (cs := [_, _, _, _, _]) underlying33 sizeOf74 zeroValue74 Y rfl rfl rfl rfl rfl) ?_
      rintro _ _ ⟨gb, rfl, rfl⟩
      refine Ze (w_append_subS (by_ := 40) (sz := 5) underlying33 (rfl : Tryz.prog.info? 74 = some Tryz.t74) rfl rfl rfl rfl Y (hro) Y (subS_new 5 gb 1 1 74 (0, 0) [.int .i64 r.t, .int .i64 r.k, .int .i64 r.v.a, .int .i64 r.v.b, .int .i64 r.v.c] rfl) (by repeat (first | exact One.here _ _ | apply One.there)) (by repeat (first | exact One.here _ _ | apply One.there)) (by simp [Value.oneCell']) (by omega) (by omega)) ?_
      rintro _ _ ⟨sa9, hra9, rfl⟩
      obtain ⟨ga9, ca9, rfl⟩ := hra9.form
      refine Za Y <| Z0 <| Zn [1, 5, 6] ?_
      refine nx_block_normal <| Zx <| Zg <| Zm Y <| Ya (n := 1) Y Y <| Za Y <| Z0 <| Zn [5, 6, 1] ?_
      refine nx_againB (e' := [(5, _), (6, _)]) (m := _) (H' := _) (by exact ⟨i + 1, _, _, rfl, ⟨by omega, rowS_eq hra9 (by rw [filt_t hr hin, List.length_append]; rfl) (by rw [filt_t hr hin, rowCells_app]; rfl)⟩, rfl, rfl⟩)
     ·
      have hin : inB x r = false := decide_eq_false (by omega)
      refine at_skip <| nx_block_normal <| Zx <| Zg <| Zm Y <| Ya (n := 1) Y Y <| Za Y <| Z0 <| Zn [5, 6, 1] ?_
      refine nx_againB (e' := [(5, _), (6, _)]) (m := _) (H' := _) (by exact ⟨i + 1, _, so, rfl, ⟨by omega, rowS_eq hro (by rw [filt_f hr hin]) (by rw [filt_f hr hin])⟩, rfl, rfl⟩)
    ·
     have hin : inB x r = false := decide_eq_false (by omega)
     refine op_skip Y rfl <| op_skip Y rfl <| op_skip Y rfl <| op_skip Y rfl <| Zv (p_pick_f Y Y) <| Z0 <| Zx <| at_else Y <| at_skip <| nx_block_normal <| Zx <| Zg <| Zm Y <| Ya (n := 1) Y Y <| Za Y <| Z0 <| Zn [5, 6, 1] ?_
     refine nx_againB (e' := [(5, _), (6, _)]) (m := _) (H' := _) (by exact ⟨i + 1, _, so, rfl, ⟨by omega, rowS_eq hro (by rw [filt_f hr hin]) (by rw [filt_f hr hin])⟩, rfl, rfl⟩)
   case hl_3 =>
    exact each_nil
  ·
   have ei : i = x.rows.length := by omega
   subst ei
   rw [List.take_length] at hro ⊢
   refine at_exit <| Zt <| Zt <| nx_block_exit <| Zx <| Zq <| Zg <| Zm Y <| Za Y <| Za Y <| Z0 <| Zx <| at_ret ?_
   refine nx_end2 rfl results15 Y Y (by exact ⟨.slice qo _ co, so, by rw [decide_eq_true hcm], by rw [rows_t hcm]; exact hro, rfl⟩)

set_option maxHeartbeats 1000000 in
theorem r10_same {M : List Chunk} {va vb : Value} {a b : RP} (ha : RPIn M va a) (hb : RPIn M vb b) : DoesR Tryz.prog 16 #[va, vb] [M] (.bool (decide (a = b))) := by
 have hml : maxLen = 9223372036854775807 := rfl
 obtain ⟨vr1, vp1, vt1, rfl, hR1, hP1, hT1⟩ := ha
 obtain ⟨vr2, vp2, vt2, rfl, hR2, hP2, hT2⟩ := hb
 obtain ⟨pp1, cp1, rfl, hl1, hg1⟩ := id hP1
 obtain ⟨pp2, cp2, rfl, hl2, hg2⟩ := id hP2
 refine spec_enter func16 rfl ntmps16 rfl ?_
 intro u R
 refine Zb [0, 1] ?_
 refine Zq <| Zg <| Ze (w_box Y (cs := #[_, _, _, _, _, _, _, _, _]) rfl) ?_
 rintro _ _ ⟨b1, rfl, rfl⟩
 refine Ze (w_box Y (cs := #[_, _, _, _, _, _, _, _, _]) rfl) ?_
 rintro _ _ ⟨b2, rfl, rfl⟩
 refine Za Y <| Z0 <| Zx <| Zq <| Zq <| Zg <| Zh 0 underlying37 rfl rfl sizeOf3 Y <| Zl isAgg3 Y ?_
 refine Zh 0 underlying37 rfl rfl sizeOf3 Y <| Zl isAgg3 Y ?_
 refine Zv (p_neq Y Y) <| Zm Y ?_
 refine ops_split (t := 12) Y rfl (fun k1 => ?_) (fun k1 => ?_)
 ·
  refine op_skip Y rfl <| op_skip Y rfl <| op_skip Y rfl <| op_skip Y rfl <| op_skip Y rfl <| Zv (p_pick_t Y Y) <| Zm Y <| op_skip Y rfl <| op_skip Y rfl <| op_skip Y rfl <| op_skip Y rfl <| op_skip Y rfl <| Zv (p_pick_t Y Y) <| Zm Y <| op_skip Y rfl <| op_skip Y rfl <| op_skip Y rfl <| op_skip Y rfl <| op_skip Y rfl <| Zv (p_pick_t Y Y) <| Zm Y <| op_skip Y rfl <| op_skip Y rfl <| op_skip Y rfl ?_
  refine op_skip Y rfl <| op_skip Y rfl <| Zv (p_pick_t Y Y) <| Zm Y <| op_skip Y rfl <| op_skip Y rfl <| op_skip Y rfl <| op_skip Y rfl <| op_skip Y rfl <| Zv (p_pick_t Y Y) <| Zm Y <| op_skip Y rfl <| op_skip Y rfl <| op_skip Y rfl <| op_skip Y rfl <| op_skip Y rfl <| op_skip Y rfl <| op_skip Y rfl <| Zv (p_pick_t Y Y) <| Z0 <| Zn [2, 3, 55] ?_
  refine Zx <| at_then Y <| Zq <| Zg <| Za Y <| Z0 <| Zx <| at_ret <| Zt ?_
  refine nx_end1 rfl results16 Y (by exact ⟨eq_false (fun e => by subst e; exact absurd rfl k1), rfl⟩)
 ·
  refine Yf 1 underlying37 rfl rfl sizeOf3 Y <| Yl isAgg3 Y ?_
  refine Yf 1 underlying37 rfl rfl sizeOf3 Y <| Yl isAgg3 Y ?_
  refine Yg (p_neq Y Y) <| Zv (p_pick_f Y Y) <| Zm Y ?_
  refine ops_split (t := 19) Y rfl (fun k2 => ?_) (fun k2 => ?_)
  ·
   refine op_skip Y rfl <| op_skip Y rfl <| op_skip Y rfl <| op_skip Y rfl <| op_skip Y rfl <| Zv (p_pick_t Y Y) <| Zm Y <| op_skip Y rfl <| op_skip Y rfl <| op_skip Y rfl <| op_skip Y rfl <| op_skip Y rfl <| Zv (p_pick_t Y Y) <| Zm Y <| op_skip Y rfl <| op_skip Y rfl <| op_skip Y rfl <| op_skip Y rfl <| op_skip Y rfl <| Zv (p_pick_t Y Y) <| Zm Y <| op_skip Y rfl <| op_skip Y rfl <| op_skip Y rfl ?_
   refine op_skip Y rfl <| op_skip Y rfl <| Zv (p_pick_t Y Y) <| Zm Y <| op_skip Y rfl <| op_skip Y rfl <| op_skip Y rfl <| op_skip Y rfl <| op_skip Y rfl <| op_skip Y rfl <| op_skip Y rfl <| Zv (p_pick_t Y Y) <| Z0 <| Zn [2, 3, 55] ?_
   refine Zx <| at_then Y <| Zq <| Zg <| Za Y <| Z0 <| Zx <| at_ret <| Zt ?_
   refine nx_end1 rfl results16 Y (by exact ⟨eq_false (fun e => by subst e; exact absurd rfl k2), rfl⟩)
  ·
   refine Yf 2 underlying37 rfl rfl sizeOf3 Y <| Yl isAgg3 Y ?_
   refine Yf 2 underlying37 rfl rfl sizeOf3 Y <| Yl isAgg3 Y ?_
   refine Yg (p_neq Y Y) <| Zv (p_pick_f Y Y) <| Zm Y ?_
   refine ops_split (t := 26) Y rfl (fun k3 => ?_) (fun k3 => ?_)
   ·
    refine op_skip Y rfl <| op_skip Y rfl <| op_skip Y rfl <| op_skip Y rfl <| op_skip Y rfl <| Zv (p_pick_t Y Y) <| Zm Y <| op_skip Y rfl <| op_skip Y rfl <| op_skip Y rfl <| op_skip Y rfl <| op_skip Y rfl <| Zv (p_pick_t Y Y) <| Zm Y <| op_skip Y rfl <| op_skip Y rfl <| op_skip Y rfl <| op_skip Y rfl <| op_skip Y rfl <| Zv (p_pick_t Y Y) <| Zm Y <| op_skip Y rfl <| op_skip Y rfl <| op_skip Y rfl ?_
    refine op_skip Y rfl <| op_skip Y rfl <| op_skip Y rfl <| op_skip Y rfl <| Zv (p_pick_t Y Y) <| Z0 <| Zn [2, 3, 55] ?_
    refine Zx <| at_then Y <| Zq <| Zg <| Za Y <| Z0 <| Zx <| at_ret <| Zt ?_
    refine nx_end1 rfl results16 Y (by exact ⟨eq_false (fun e => by subst e; exact absurd rfl k3), rfl⟩)
   ·
    refine Yf 3 underlying37 rfl rfl sizeOf3 Y <| Yl isAgg3 Y ?_
    refine Yf 3 underlying37 rfl rfl sizeOf3 Y <| Yl isAgg3 Y ?_
    refine Yg (p_neq Y Y) <| Zv (p_pick_f Y Y) <| Zm Y ?_
    refine ops_split (t := 33) Y rfl (fun k4 => ?_) (fun k4 => ?_)
    ·
     refine op_skip Y rfl <| op_skip Y rfl <| op_skip Y rfl <| op_skip Y rfl <| op_skip Y rfl <| Zv (p_pick_t Y Y) <| Zm Y <| op_skip Y rfl <| op_skip Y rfl <| op_skip Y rfl <| op_skip Y rfl <| op_skip Y rfl <| Zv (p_pick_t Y Y) <| Zm Y <| op_skip Y rfl <| op_skip Y rfl <| op_skip Y rfl <| op_skip Y rfl <| op_skip Y rfl <| op_skip Y rfl <| op_skip Y rfl <| Zv (p_pick_t Y Y) <| Z0 <| Zn [2, 3, 55] ?_
     refine Zx <| at_then Y <| Zq <| Zg <| Za Y <| Z0 <| Zx <| at_ret <| Zt ?_
     refine nx_end1 rfl results16 Y (by exact ⟨eq_false (fun e => by subst e; exact absurd rfl k4), rfl⟩)
    ·
     refine Yf 4 underlying37 rfl rfl sizeOf3 Y <| Yl isAgg3 Y ?_
     refine Yf 4 underlying37 rfl rfl sizeOf3 Y <| Yl isAgg3 Y ?_
     refine Yg (p_neq Y Y) <| Zv (p_pick_f Y Y) <| Zm Y ?_
     refine ops_split (t := 40) Y rfl (fun k5 => ?_) (fun k5 => ?_)
     ·
      refine op_skip Y rfl <| op_skip Y rfl <| op_skip Y rfl <| op_skip Y rfl <| op_skip Y rfl <| Zv (p_pick_t Y Y) <| Zm Y <| op_skip Y rfl <| op_skip Y rfl <| op_skip Y rfl <| op_skip Y rfl <| op_skip Y rfl <| op_skip Y rfl <| op_skip Y rfl <| Zv (p_pick_t Y Y) <| Z0 <| Zn [2, 3, 55] ?_
      refine Zx <| at_then Y <| Zq <| Zg <| Za Y <| Z0 <| Zx <| at_ret <| Zt ?_
      refine nx_end1 rfl results16 Y (by exact ⟨eq_false (fun e => by subst e; exact absurd rfl k5), rfl⟩)
     ·
      refine Yf 5 underlying37 rfl rfl sizeOf3 Y <| Yl isAgg3 Y ?_
      refine Yf 5 underlying37 rfl rfl sizeOf3 Y <| Yl isAgg3 Y ?_
      refine Yg (p_neq Y Y) <| Zv (p_pick_f Y Y) <| Zm Y ?_
      refine ops_split (t := 47) Y rfl (fun k6 => ?_) (fun k6 => ?_)
      ·
       refine op_skip Y rfl <| op_skip Y rfl <| op_skip Y rfl <| op_skip Y rfl <| op_skip Y rfl <| op_skip Y rfl <| op_skip Y rfl <| Zv (p_pick_t Y Y) <| Z0 <| Zn [2, 3, 55] ?_
       refine Zx <| at_then Y <| Zq <| Zg <| Za Y <| Z0 <| Zx <| at_ret <| Zt ?_
       refine nx_end1 rfl results16 Y (by exact ⟨eq_false (fun e => by subst e; exact absurd rfl k6), rfl⟩)
      ·
       refine Yf 7 underlying37 rfl rfl sizeOf34 Y <| Yl isAgg34 Y ?_
       refine Yg (p_len_slice underlying34 Y) <| Yf 7 underlying37 rfl rfl sizeOf34 Y <| Yl isAgg34 Y ?_
       refine Yg (p_len_slice underlying34 Y) <| Yg (p_neq_nat Y Y) <| Zv (p_pick_f Y Y) <| Z0 <| Zn [2, 3, 55] ?_
       refine Zx ?_
       refine at_if Y (fun k7 => ?_) (fun k7 => ?_)
       ·
        refine Zq <| Zg <| Za Y <| Z0 <| Zx <| at_ret <| Zt ?_
        refine nx_end1 rfl results16 Y (by exact ⟨eq_false (fun e => by subst e; exact absurd rfl k7), rfl⟩)
       ·
        have hnum : a.tb = b.tb ∧ a.cl = b.cl ∧ a.lo = b.lo ∧ a.hi = b.hi ∧ a.ct = b.ct ∧ a.fi = b.fi := by omega
        have hpl : a.paths.length = b.paths.length := by omega
        refine at_skip <| Zx <| Zq <| Zq <| Zg <| Za Y <| Z0 <| Zx <| at_block <| Zb [5, 2, 3] ?_
        refine at_loopB (e0 := [(5, _)]) (H0 := _) (n := _) (fun m e H => ∃ (i : Nat), m = a.paths.length - i ∧ (i ≤ a.paths.length ∧ ∀ j, j < i → a.paths[j]? = b.paths[j]?) ∧ e = [(5, .int .i64 (i : Int))] ∧ H = []) (by exact ⟨0, rfl, ⟨Nat.zero_le _, by intro j hj; omega⟩, rfl, rfl⟩) (by repeat (first | exact Pull.nil _ | (apply Pull.cons; (focus (repeat (first | exact One.here _ _ | apply One.there)))))) ?_
        rintro _ _ _ ⟨i, rfl, ⟨hi, hall⟩, rfl, rfl⟩
        refine Zq <| Zq <| Zg <| Zm Y <| Zh 7 underlying37 rfl rfl sizeOf34 Y <| Zl isAgg34 Y ?_
        refine Zv (p_len_slice underlying34 Y) <| Zv (p_lss_nat Y Y) <| Z0 <| Zx ?_
        refine at_if Y (fun hlt => ?_) (fun hlt => ?_)
        ·
         obtain ⟨x, hx⟩ : ∃ x, a.paths[i]? = some x := ⟨_, List.getElem?_eq_getElem (by omega)⟩
         obtain ⟨y, hy⟩ : ∃ y, b.paths[i]? = some y := ⟨_, List.getElem?_eq_getElem (by omega)⟩
         obtain ⟨qx, cx, hux, g1, off1, cur1, T1, zz1, rfl, hm1, hex1⟩ := hg1 i x hx
         obtain ⟨qy, cy, huy, g2, off2, cur2, T2, zz2, rfl, hm2, hex2⟩ := hg2 i y hy
         refine at_skip <| Zx <| Zq <| at_block <| Zq <| at_draw (n := 12) (0 :: 1 :: 0 :: 7 :: 15 :: 0 :: 32 :: 0 :: 224 :: 480 :: 1023 :: 2047 :: []) 1024 (by kernel_rfl) (by kernel_rfl) rfl ?_
         refine Zi 1 0 rfl (p_fieldAddr0 (off := 7) underlying37 rfl rfl sizeOf34 Y) <| Zj 3 1 rfl isAgg34 Y ?_
         refine Zi 7 2 rfl (p_move Y) ?_
         (refine lin_v (D' := 15) 3 (p_indexAddr_nat1 underlying34 sizeOf35 Y Y ?_) ?_; (focus (first | omega | decide | (simp; done))))
         refine lin_rm (b := g1) (x := .cells cur1 T1 zz1) (D' := 31) 4 rfl rfl rfl (by simp [hm1]) (p_load isAgg35 Y (by exact hex1)) ?_
         refine Zi 63 5 rfl (p_fieldAddr0 (off := 7) underlying37 rfl rfl sizeOf34 Y) <| Zj 127 6 rfl isAgg34 Y ?_
         refine Zi 255 7 rfl (p_move Y) ?_
         (refine lin_v (D' := 511) 8 (p_indexAddr_nat1 underlying34 sizeOf35 Y Y ?_) ?_; (focus (first | omega | decide | (simp; done))))
         refine lin_rm (b := g2) (x := .cells cur2 T2 zz2) (D' := 1023) 9 rfl rfl rfl (by simp [hm2]) (p_load isAgg35 Y (by exact hex2)) ?_
         refine Zz (l := [10]) ?_
         refine Zy 1023 2047 [9, 6, 4, 1] [false, false, false, false] [] rfl Y rfl rfl rfl rfl (Zu [_, _] Y call52 Y rfl (r2_same hux huy)) ?hk_9 (fun _ _ h => h.elim) ?hl_9
         case hk_9 =>
          rintro _ _ ⟨rfl, rfl⟩
          refine ⟨keep_nil, ?_⟩
          refine Zi 4095 11 rfl (p_assign Y) <| lin_nil ?_
          refine Zn [2, 3, 5, 6] ?_
          refine Zx <| Zq <| Zg <| Zm Y <| Zv (p_not_dec Y) <| Z0 <| Zx ?_
          refine at_if Y (fun hd => ?_) (fun hd => ?_)
          ·
           refine Zq <| Zg <| Za Y <| Z0 <| Zx <| at_ret <| nx_block_ret <| Zt <| Zt <| nx_block_ret <| Zt ?_
           refine nx_end1 rfl results16 Y (by exact ⟨eq_false (fun e => by rw [e, hy] at hx; injection hx with hx; exact hd hx.symm), rfl⟩)
          ·
           have heq : x = y := Classical.not_not.1 hd
           refine at_skip <| nx_block_normal <| Zx <| Zg <| Zm Y <| Ya (n := 1) Y Y <| Za Y <| Z0 <| Zn [5, 2, 3] ?_
           refine nx_againB (e' := [(5, _)]) (m := _) (H' := _) (by exact ⟨i + 1, rfl, ⟨by omega, fun j hj => by rcases Nat.lt_or_ge j i with h9 | h9; exact hall j h9; obtain rfl : j = i := (by omega); rw [hx, hy]; exact congrArg some heq⟩, rfl, rfl⟩)
         case hl_9 =>
          exact each_nil
        ·
         have hpe : a.paths = b.paths := list_eq hpl (fun j hj => hall j (by omega))
         refine at_exit <| Zt <| Zt <| nx_block_exit <| Zx <| Zq <| Zg <| Zh 6 underlying37 rfl rfl sizeOf33 Y <| Zl isAgg33 Y ?_
         refine Zh 6 underlying37 rfl rfl sizeOf33 Y <| Zl isAgg33 Y ?_
         refine Zr [_, _] Y call17 Y rfl (r4_same hR1 hR2) ?_
         rintro _ _ ⟨rfl, rfl⟩
         refine Zm Y ?_
         refine ops_split (t := 81) Y rfl (fun h2 => ?_) (fun h2 => ?_)
         ·
          refine Yf 8 underlying37 rfl rfl sizeOf35 Y <| Yl isAgg35 Y ?_
          refine Yf 8 underlying37 rfl rfl sizeOf35 Y <| Yl isAgg35 Y ?_
          refine Zr [_, _] Y call52 Y rfl (r2_same hT1 hT2) ?_
          rintro _ _ ⟨rfl, rfl⟩
          refine Zv (p_pick_t Y Y) <| Za Y <| Z0 <| Zn [4] ?_
          refine Zx <| at_ret ?_
          refine nx_end1 rfl results16 Y (by exact ⟨by exact dec_bool ⟨fun h9 => rp_eq.2 ⟨hpe, hnum, h2, h9⟩, fun h9 => (rp_eq.1 h9).2.2.2⟩, rfl⟩)
         ·
          refine op_skip Y rfl <| op_skip Y rfl <| op_skip Y rfl <| op_skip Y rfl <| op_skip Y rfl <| Zv (p_pick_f Y Y) <| Za Y <| Z0 <| Zn [4] ?_
          refine Zx <| at_ret ?_
          refine nx_end1 rfl results16 Y (by exact ⟨by exact eq_false (fun e => h2 (rp_eq.1 e).2.2.1), rfl⟩)

end Go.Proofs.YtjeepldonhgohaaGreatDoor


namespace Go.Proofs.YtjeepldonhgohaaGreatDoor
open Go.Proofs.Tryz
open Go Go.RowKit Gw
set_option linter.unusedVariables false
set_option linter.unusedSimpArgs false
set_option maxRecDepth 100000
attribute [local irreducible] Gw.At Gw.Nx Gw.Ops
def RP.zero : RP := ⟨0, 0, 0, 0, 0, 0, [], [], []⟩
def askOk (t c lo hi : Int) : Prop := ((0 ≤ t ∧ t < 4) ∧ 0 ≤ c ∧ c < 4) ∧ lo ≤ hi
instance (t c lo hi : Int) : Decidable (askOk t c lo hi) := inferInstanceAs (Decidable (_ ∧ _))
end Go.Proofs.YtjeepldonhgohaaGreatDoor

namespace Go.Proofs.YtjeepldonhgohaaGreatDoor
open Go.Proofs.Tryz
open Go Go.RowKit Gw
set_option linter.unusedVariables false
set_option linter.unusedSimpArgs false
set_option maxRecDepth 100000
attribute [local irreducible] Gw.At Gw.Nx Gw.Ops
theorem cut_any {g o c sz a : Nat} (h : a < c) : cutAt (some ⟨g, o, none⟩) a c sz = some ⟨g, o + a * sz, none⟩ := by
  unfold cutAt; rw [if_neg (by omega), Option.map_some, add_addr]
theorem RowsU.sub {M : List Chunk} {p : Option Addr} {n cap a b : Nat} {rs : List RowM} (h : RowsU M (.slice p n cap) rs) (ha : a ≤ b) (hb : b ≤ rs.length) : RowsU M (.slice (cutAt p a cap 5) (b - a) (cap - a)) ((rs.drop a).take (b - a)) := by
  obtain ⟨p', cap', e, hl2, hg⟩ := h
  injection e with e1 e2 e3
  subst e1 e2 e3
  refine ⟨_, _, by rw [List.length_take, List.length_drop, Nat.min_eq_left (by omega)], by rw [List.length_take, List.length_drop]; omega, fun i x hx => ?_⟩
  rw [List.getElem?_take] at hx
  split at hx
  · rw [List.getElem?_drop] at hx
    obtain ⟨g, off, cur, T, zz, rfl, hm, hsz, hex⟩ := hg (a + i) x hx
    rw [cut_any (by omega)]
    exact ⟨g, _, cur, T, zz, rfl, hm, by omega, by rw [show off + a * 5 + i * 5 = off + (a + i) * 5 by omega]; exact hex⟩
  · cases hx
theorem PathsU.sub {M : List Chunk} {p : Option Addr} {n cap a b : Nat} {ps : List (List Bs)} (h : PathsU M (.slice p n cap) ps) (ha : a ≤ b) (hb : b ≤ ps.length) : PathsU M (.slice (cutAt p a cap 1) (b - a) (cap - a)) ((ps.drop a).take (b - a)) := by
  obtain ⟨p', cap', e, hl2, hg⟩ := h
  injection e with e1 e2 e3
  subst e1 e2 e3
  refine ⟨_, _, by rw [List.length_take, List.length_drop, Nat.min_eq_left (by omega)], by rw [List.length_take, List.length_drop]; omega, fun i x hx => ?_⟩
  rw [List.getElem?_take] at hx
  split at hx
  · rw [List.getElem?_drop] at hx
    obtain ⟨q, c, hu, g, off, cur, T, zz, rfl, hm, hex⟩ := hg (a + i) x hx
    rw [cut_any (by omega)]
    exact ⟨q, c, hu, g, _, cur, T, zz, rfl, hm, by rw [show off + a * 1 + i = off + (a + i) by omega]; exact hex⟩
  · cases hx

end Go.Proofs.YtjeepldonhgohaaGreatDoor

namespace Go.Proofs.YtjeepldonhgohaaGreatDoor
open Go.Proofs.Tryz
open Go Go.RowKit Gw
set_option linter.unusedVariables false
set_option linter.unusedSimpArgs false
set_option maxRecDepth 100000
attribute [local irreducible] Gw.At Gw.Nx Gw.Ops
/-- Two different strings, one of each list, have the same digest. -/
def Coll (a b : List Bs) : Prop := ∃ x ∈ a, ∃ y ∈ b, x ≠ y ∧ sha x = sha y
theorem Coll.mono {a b a' b' : List Bs} (h : Coll a b) (ha : ∀ x ∈ a, x ∈ a') (hb : ∀ x ∈ b, x ∈ b') : Coll a' b' := by
  obtain ⟨x, hx, y, hy, h⟩ := h
  exact ⟨x, ha x hx, y, hb y hy, h⟩
end Go.Proofs.YtjeepldonhgohaaGreatDoor

namespace Go.Proofs.YtjeepldonhgohaaGreatDoor
open Go.Proofs.Tryz
open Go Go.RowKit Gw
set_option linter.unusedVariables false
set_option linter.unusedSimpArgs false
set_option maxRecDepth 100000
attribute [local irreducible] Gw.At Gw.Nx Gw.Ops
def bumpV (r : RowM) (j : Nat) : RowM := ⟨r.t, r.k, ⟨if j = 0 then r.v.a + 1 else r.v.a, if j = 1 then r.v.b + 1 else r.v.b, if j = 2 then r.v.c + 1 else r.v.c⟩⟩
/-- Two entries of a list change places. -/
def swapL {α : Type} (l : List α) (k : Nat) : List α := match l[0]?, l[k]? with
  | some x, some y => (l.set 0 y).set k x
  | _, _ => l
/-- A damaged proof: what is changed, where, and how. -/
def damK (x : RP) (kind k : Nat) (c : Int) : RP :=
  if kind = 0 then { x with fi := x.fi + 1 }
  else if kind = 1 then { x with ct := x.ct - 1 }
  else if kind = 2 then { x with lo := x.lo - 1 - (pickN c 5 : Int) }
  else if kind = 3 then { x with hi := x.hi + 1 + (pickN c 5 : Int) }
  else if kind = 4 then { x with rows := match x.rows[k]? with
    | some r => x.rows.set k (bumpV r (pickN c 3))
    | none => x.rows }
  else if kind = 5 then { x with rows := x.rows.eraseIdx k, paths := x.paths.eraseIdx k }
  else if kind = 6 then { x with rows := swapL x.rows k, paths := swapL x.paths k }
  else if kind = 7 then { x with paths := match x.paths[k]? with
    | some l => x.paths.set k (l.set 0 (sha [120]))
    | none => x.paths }
  else if kind = 8 then { x with roots := x.roots.set (pickN c x.roots.length) (sha [121]) }
  else if kind = 9 then { x with cl := (pickN c 4 : Int) }
  else if kind = 10 then { x with rows := [], paths := [], ct := 0, fi := 0 }
  else x
def damT (x : RP) (a b c : Int) : RP := damK x (pickN a 12) (pickN b (max x.rows.length 1)) c
end Go.Proofs.YtjeepldonhgohaaGreatDoor


namespace Go.Proofs.YtjeepldonhgohaaGreatDoor
open Go.Proofs.Tryz
open Go Go.RowKit Gw
set_option linter.unusedVariables false
set_option linter.unusedSimpArgs false
set_option maxRecDepth 100000
attribute [local irreducible] Gw.At Gw.Nx Gw.Ops
noncomputable instance (a b : List Bs) : Decidable (Coll a b) := Classical.propDecidable _
theorem strV_one (l : List Bs) : ∀ u ∈ l.map strV, u.oneCell' = true := by
  intro u hu
  obtain ⟨x, _, rfl⟩ := List.mem_map.1 hu
  rfl

end Go.Proofs.YtjeepldonhgohaaGreatDoor
