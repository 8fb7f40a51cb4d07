/- state, as a function of the integers. -/
/- The reference of layer 10: Rows, Same. -/
/- The law StatetreeDamaged. -/
/- StatetreeDamaged as its card wants it. -/
import Derived.Test.YtjeepldonhgohaaGreatDoorEz
import Derived.Test.YtjeepldonhgohaaGreatDoorTr26
import Derived.Test.YtjeepldonhgohaaGreatDoorLd2
import Derived.Test.YtjeepldonhgohaaGreatDoorTr14
import Derived.Test.YtjeepldonhgohaaGreatDoorRt1
import Derived.Test.YtjeepldonhgohaaGreatDoorTr8
import Derived.Test.YtjeepldonhgohaaGreatDoorTr13
import Derived.Test.YtjeepldonhgohaaGreatDoorTr10
import Derived.Test.YtjeepldonhgohaaGreatDoorLd1

namespace Go.Proofs.YtjeepldonhgohaaGreatDoor
open Go.Proofs.Tryz
open Go Go.RowKit Gw
set_option linter.unusedVariables false
set_option linter.unusedSimpArgs false
set_option maxRecDepth 100000
attribute [local irreducible] Gw.At Gw.Nx Gw.Ops
theorem state_F {M : List Chunk} {v : Value} {xs : List (List Int)} (hX : SixIn M v xs) : Does Tryz.prog 8 #[v] [M] (fun r H' => ∃ sp mb es ck lm rp w sv sl l, LogOk l ∧ l.map RecM.cs = logF (xs.take (min xs.length 20)) ∧ r = .tuple #[.pointer (some ⟨sp, 0, none⟩), .pointer (some ⟨rp, 0, none⟩)] ∧ MapM K2 es ck lm ∧ MapR lm (rowsOf l) ∧ RowS 5 74 w (rowsOf l).length (rowCells (rowsOf l)) sv ∧
      H' = [[(sp, .cells #[.map (some mb), .int .i64 (l.length : Int)] 154 (0, 0))], [(mb, .map es ck)], [(rp, .cells #[w, .int .i64 (l.length : Int)] 121 (0, 0))], sv, sl, M]) := by
 have hml : maxLen = 9223372036854775807 := rfl
 obtain ⟨py, capy, rfl, hyl, hgy⟩ := id hX
 have hX2 := six_take hX (min xs.length 20) (Nat.min_le_left _ _)
 have hyk : (xs.take (min xs.length 20)).length ≤ 20 := by rw [List.length_take]; omega
 refine spec_enter func8 rfl ntmps8 rfl ?_
 intro u R
 refine Zb [0] ?_
 refine Zq <| Zg <| Za Y <| Za Y <| Z0 <| Zx <| Zq <| Zg <| Zm Y <| Zm Y <| Zv (p_len_slice underlying22 Y) <| Zv (p_min_nat (n := 20) Y Y) ?_
 (refine op_v (p_slice_slice_to underlying22 sizeOf92 Y Y ?_) ?_; (focus (first | omega | (simp; omega))))
 refine Zc [_] Y call32 Y rfl (r4_logF hX2 (by omega)) ?_
 rintro _ _ ⟨_, ⟨l, sl, hlog, hll, hlF, hRI, rfl⟩, rfl⟩
 obtain ⟨pl, capl, rfl, hlc, hgl⟩ := id hRI
 refine Za Y <| Z0 <| Zx <| Zq <| Zg <| Zm Y <| Zm Y <| Zv (p_len_slice underlying69 Y) <| Zc [_, _] Y call30 Y rfl (st_at pl capl l sl hRI hlog (by omega) l.length (Nat.le_refl _)) ?_
 rintro _ _ ⟨_, ⟨sp, mb, es, ck, lm, rfl, hm, hR, rfl⟩, rfl⟩
 refine Zm Y <| Zd Y rfl <| Zd Y rfl <| Za Y <| Za Y <| Z0 <| Zn [4, 5] ?_
 refine Zx <| Zq <| Zg <| Zm Y <| Zm Y <| Zv (p_len_slice underlying69 Y) <| Zc [_, _] Y call33 Y rfl (r4_at pl capl l sl hRI hlog (by omega) l.length (Nat.le_refl _)) ?_
 rintro _ _ ⟨_, ⟨rp, w, sv, rfl, hrw, rfl⟩, rfl⟩
 refine Zm Y <| Zd Y rfl <| Zd Y rfl <| Za Y <| Za Y <| Z0 <| Zx <| Zq <| Zg <| Zm Y <| Zm Y <| Za Y <| Za Y <| Z0 <| Zn [2, 3] ?_
 refine Zx <| at_ret ?_
 refine nx_end2 rfl results8 Y Y (by rw [List.take_length] at hR hrw; exact ⟨sp, mb, es, ck, lm, rp, w, sv, sl, l, hlog, hlF, rfl, hm, hR, hrw, rfl⟩)

theorem whole_spec {M : List Chunk} {v : Value} {x : RP} (hv : RPIn M v x) : DoesR Tryz.prog 19 #[v] [] (.bool (decide (x.roots.length = 16 ∧ x.paths.length = x.rows.length))) := by
 obtain ⟨vr, vp, vt, rfl, ⟨qr, cr, rfl, _⟩, ⟨qp, cp, rfl, _⟩, ⟨qt, ct, rfl, _⟩⟩ := hv
 refine spec_enter func19 rfl ntmps19 rfl ?_
 intro u R
 refine Zb [0] ?_
 refine Zq <| Zg <| Ze (w_box Y (cs := #[_, _, _, _, _, _, _, _, _]) rfl) ?_
 rintro _ _ ⟨b1, rfl, rfl⟩
 refine Za Y <| Z0 <| Zx <| Zq <| Zg <| Zh 8 underlying37 rfl rfl sizeOf35 Y <| Zl isAgg35 Y ?_
 refine Zv (p_len_slice underlying35 Y) <| Zv (p_eql_nat (n := 16) Y Y) <| Zm Y ?_
 refine ops_split (t := 7) Y rfl (fun h1 => ?_) (fun h1 => ?_)
 ·
  refine Yf 7 underlying37 rfl rfl sizeOf34 Y <| Yl isAgg34 Y ?_
  refine Yg (p_len_slice underlying34 Y) <| Yf 6 underlying37 rfl rfl sizeOf33 Y <| Yl isAgg33 Y ?_
  refine Yg (p_len_slice underlying33 Y) <| Yg (p_eql_nat Y Y) <| Zv (p_pick_t Y Y) <| Za Y <| Z0 <| Zn [2] ?_
  refine Zx <| at_ret ?_
  refine nx_end1 rfl results19 Y (by exact ⟨by exact congrArg Value.bool (decide_eq_decide.2 (by omega)), rfl⟩)
 ·
  refine op_skip Y rfl <| op_skip Y rfl <| op_skip Y rfl <| op_skip Y rfl <| op_skip Y rfl <| op_skip Y rfl <| op_skip Y rfl <| Zv (p_pick_f Y Y) <| Za Y <| Z0 <| Zn [2] ?_
  refine Zx <| at_ret ?_
  refine nx_end1 rfl results19 Y (by exact ⟨by exact congrArg Value.bool (decide_eq_false (by omega)).symm, rfl⟩)

end Go.Proofs.YtjeepldonhgohaaGreatDoor

namespace Go.Proofs.YtjeepldonhgohaaGreatDoor
open Go.Proofs.Tryz
open Go Go.RowKit Gw
set_option linter.unusedVariables false
set_option linter.unusedSimpArgs false
set_option maxRecDepth 100000
attribute [local irreducible] Gw.At Gw.Nx Gw.Ops
set_option maxHeartbeats 1000000 in
theorem r10_same {M : List Chunk} {va vb : Value} {a b : RP} (ha : RPIn M va a) (hb : RPIn M vb b) : DoesR Tryz.prog 16 #[va, vb] [M] (.bool (decide (a = b))) := by
 have hml : maxLen = 9223372036854775807 := rfl
 obtain ⟨vr1, vp1, vt1, rfl, hR1, hP1, hT1⟩ := ha
 obtain ⟨vr2, vp2, vt2, rfl, hR2, hP2, hT2⟩ := hb
 obtain ⟨pp1, cp1, rfl, hl1, hg1⟩ := id hP1
 obtain ⟨pp2, cp2, rfl, hl2, hg2⟩ := id hP2
 refine spec_enter func16 rfl ntmps16 rfl ?_
 intro u R
 refine Zb [0, 1] ?_
 refine Zq <| Zg <| Ze (w_box Y (cs := #[_, _, _, _, _, _, _, _, _]) rfl) ?_
 rintro _ _ ⟨b1, rfl, rfl⟩
 refine Ze (w_box Y (cs := #[_, _, _, _, _, _, _, _, _]) rfl) ?_
 rintro _ _ ⟨b2, rfl, rfl⟩
 refine Za Y <| Z0 <| Zx <| Zq <| Zq <| Zg <| Zh 0 underlying37 rfl rfl sizeOf3 Y <| Zl isAgg3 Y ?_
 refine Zh 0 underlying37 rfl rfl sizeOf3 Y <| Zl isAgg3 Y ?_
 refine Zv (p_neq Y Y) <| Zm Y ?_
 refine ops_split (t := 12) Y rfl (fun k1 => ?_) (fun k1 => ?_)
 ·
  refine op_skip Y rfl <| op_skip Y rfl <| op_skip Y rfl <| op_skip Y rfl <| op_skip Y rfl <| Zv (p_pick_t Y Y) <| Zm Y <| op_skip Y rfl <| op_skip Y rfl <| op_skip Y rfl <| op_skip Y rfl <| op_skip Y rfl <| Zv (p_pick_t Y Y) <| Zm Y <| op_skip Y rfl <| op_skip Y rfl <| op_skip Y rfl <| op_skip Y rfl <| op_skip Y rfl <| Zv (p_pick_t Y Y) <| Zm Y <| op_skip Y rfl <| op_skip Y rfl <| op_skip Y rfl ?_
  refine op_skip Y rfl <| op_skip Y rfl <| Zv (p_pick_t Y Y) <| Zm Y <| op_skip Y rfl <| op_skip Y rfl <| op_skip Y rfl <| op_skip Y rfl <| op_skip Y rfl <| Zv (p_pick_t Y Y) <| Zm Y <| op_skip Y rfl <| op_skip Y rfl <| op_skip Y rfl <| op_skip Y rfl <| op_skip Y rfl <| op_skip Y rfl <| op_skip Y rfl <| Zv (p_pick_t Y Y) <| Z0 <| Zn [2, 3, 55] ?_
  refine Zx <| at_then Y <| Zq <| Zg <| Za Y <| Z0 <| Zx <| at_ret <| Zt ?_
  refine nx_end1 rfl results16 Y (by exact ⟨eq_false (fun e => by subst e; exact absurd rfl k1), rfl⟩)
 ·
  refine Yf 1 underlying37 rfl rfl sizeOf3 Y <| Yl isAgg3 Y ?_
  refine Yf 1 underlying37 rfl rfl sizeOf3 Y <| Yl isAgg3 Y ?_
  refine Yg (p_neq Y Y) <| Zv (p_pick_f Y Y) <| Zm Y ?_
  refine ops_split (t := 19) Y rfl (fun k2 => ?_) (fun k2 => ?_)
  ·
   refine op_skip Y rfl <| op_skip Y rfl <| op_skip Y rfl <| op_skip Y rfl <| op_skip Y rfl <| Zv (p_pick_t Y Y) <| Zm Y <| op_skip Y rfl <| op_skip Y rfl <| op_skip Y rfl <| op_skip Y rfl <| op_skip Y rfl <| Zv (p_pick_t Y Y) <| Zm Y <| op_skip Y rfl <| op_skip Y rfl <| op_skip Y rfl <| op_skip Y rfl <| op_skip Y rfl <| Zv (p_pick_t Y Y) <| Zm Y <| op_skip Y rfl <| op_skip Y rfl <| op_skip Y rfl ?_
   refine op_skip Y rfl <| op_skip Y rfl <| Zv (p_pick_t Y Y) <| Zm Y <| op_skip Y rfl <| op_skip Y rfl <| op_skip Y rfl <| op_skip Y rfl <| op_skip Y rfl <| op_skip Y rfl <| op_skip Y rfl <| Zv (p_pick_t Y Y) <| Z0 <| Zn [2, 3, 55] ?_
   refine Zx <| at_then Y <| Zq <| Zg <| Za Y <| Z0 <| Zx <| at_ret <| Zt ?_
   refine nx_end1 rfl results16 Y (by exact ⟨eq_false (fun e => by subst e; exact absurd rfl k2), rfl⟩)
  ·
   refine Yf 2 underlying37 rfl rfl sizeOf3 Y <| Yl isAgg3 Y ?_
   refine Yf 2 underlying37 rfl rfl sizeOf3 Y <| Yl isAgg3 Y ?_
   refine Yg (p_neq Y Y) <| Zv (p_pick_f Y Y) <| Zm Y ?_
   refine ops_split (t := 26) Y rfl (fun k3 => ?_) (fun k3 => ?_)
   ·
    refine op_skip Y rfl <| op_skip Y rfl <| op_skip Y rfl <| op_skip Y rfl <| op_skip Y rfl <| Zv (p_pick_t Y Y) <| Zm Y <| op_skip Y rfl <| op_skip Y rfl <| op_skip Y rfl <| op_skip Y rfl <| op_skip Y rfl <| Zv (p_pick_t Y Y) <| Zm Y <| op_skip Y rfl <| op_skip Y rfl <| op_skip Y rfl <| op_skip Y rfl <| op_skip Y rfl <| Zv (p_pick_t Y Y) <| Zm Y <| op_skip Y rfl <| op_skip Y rfl <| op_skip Y rfl ?_
    refine op_skip Y rfl <| op_skip Y rfl <| op_skip Y rfl <| op_skip Y rfl <| Zv (p_pick_t Y Y) <| Z0 <| Zn [2, 3, 55] ?_
    refine Zx <| at_then Y <| Zq <| Zg <| Za Y <| Z0 <| Zx <| at_ret <| Zt ?_
    refine nx_end1 rfl results16 Y (by exact ⟨eq_false (fun e => by subst e; exact absurd rfl k3), rfl⟩)
   ·
    refine Yf 3 underlying37 rfl rfl sizeOf3 Y <| Yl isAgg3 Y ?_
    refine Yf 3 underlying37 rfl rfl sizeOf3 Y <| Yl isAgg3 Y ?_
    refine Yg (p_neq Y Y) <| Zv (p_pick_f Y Y) <| Zm Y ?_
    refine ops_split (t := 33) Y rfl (fun k4 => ?_) (fun k4 => ?_)
    ·
     refine op_skip Y rfl <| op_skip Y rfl <| op_skip Y rfl <| op_skip Y rfl <| op_skip Y rfl <| Zv (p_pick_t Y Y) <| Zm Y <| op_skip Y rfl <| op_skip Y rfl <| op_skip Y rfl <| op_skip Y rfl <| op_skip Y rfl <| Zv (p_pick_t Y Y) <| Zm Y <| op_skip Y rfl <| op_skip Y rfl <| op_skip Y rfl <| op_skip Y rfl <| op_skip Y rfl <| op_skip Y rfl <| op_skip Y rfl <| Zv (p_pick_t Y Y) <| Z0 <| Zn [2, 3, 55] ?_
     refine Zx <| at_then Y <| Zq <| Zg <| Za Y <| Z0 <| Zx <| at_ret <| Zt ?_
     refine nx_end1 rfl results16 Y (by exact ⟨eq_false (fun e => by subst e; exact absurd rfl k4), rfl⟩)
    ·
     refine Yf 4 underlying37 rfl rfl sizeOf3 Y <| Yl isAgg3 Y ?_
     refine Yf 4 underlying37 rfl rfl sizeOf3 Y <| Yl isAgg3 Y ?_
     refine Yg (p_neq Y Y) <| Zv (p_pick_f Y Y) <| Zm Y ?_
     refine ops_split (t := 40) Y rfl (fun k5 => ?_) (fun k5 => ?_)
     ·
      refine op_skip Y rfl <| op_skip Y rfl <| op_skip Y rfl <| op_skip Y rfl <| op_skip Y rfl <| Zv (p_pick_t Y Y) <| Zm Y <| op_skip Y rfl <| op_skip Y rfl <| op_skip Y rfl <| op_skip Y rfl <| op_skip Y rfl <| op_skip Y rfl <| op_skip Y rfl <| Zv (p_pick_t Y Y) <| Z0 <| Zn [2, 3, 55] ?_
      refine Zx <| at_then Y <| Zq <| Zg <| Za Y <| Z0 <| Zx <| at_ret <| Zt ?_
      refine nx_end1 rfl results16 Y (by exact ⟨eq_false (fun e => by subst e; exact absurd rfl k5), rfl⟩)
     ·
      refine Yf 5 underlying37 rfl rfl sizeOf3 Y <| Yl isAgg3 Y ?_
      refine Yf 5 underlying37 rfl rfl sizeOf3 Y <| Yl isAgg3 Y ?_
      refine Yg (p_neq Y Y) <| Zv (p_pick_f Y Y) <| Zm Y ?_
      refine ops_split (t := 47) Y rfl (fun k6 => ?_) (fun k6 => ?_)
      ·
       refine op_skip Y rfl <| op_skip Y rfl <| op_skip Y rfl <| op_skip Y rfl <| op_skip Y rfl <| op_skip Y rfl <| op_skip Y rfl <| Zv (p_pick_t Y Y) <| Z0 <| Zn [2, 3, 55] ?_
       refine Zx <| at_then Y <| Zq <| Zg <| Za Y <| Z0 <| Zx <| at_ret <| Zt ?_
       refine nx_end1 rfl results16 Y (by exact ⟨eq_false (fun e => by subst e; exact absurd rfl k6), rfl⟩)
      ·
       refine Yf 7 underlying37 rfl rfl sizeOf34 Y <| Yl isAgg34 Y ?_
       refine Yg (p_len_slice underlying34 Y) <| Yf 7 underlying37 rfl rfl sizeOf34 Y <| Yl isAgg34 Y ?_
       refine Yg (p_len_slice underlying34 Y) <| Yg (p_neq_nat Y Y) <| Zv (p_pick_f Y Y) <| Z0 <| Zn [2, 3, 55] ?_
       refine Zx ?_
       refine at_if Y (fun k7 => ?_) (fun k7 => ?_)
       ·
        refine Zq <| Zg <| Za Y <| Z0 <| Zx <| at_ret <| Zt ?_
        refine nx_end1 rfl results16 Y (by exact ⟨eq_false (fun e => by subst e; exact absurd rfl k7), rfl⟩)
       ·
        have hnum : a.tb = b.tb ∧ a.cl = b.cl ∧ a.lo = b.lo ∧ a.hi = b.hi ∧ a.ct = b.ct ∧ a.fi = b.fi := by omega
        have hpl : a.paths.length = b.paths.length := by omega
        refine at_skip <| Zx <| Zq <| Zq <| Zg <| Za Y <| Z0 <| Zx <| at_block <| Zb [5, 2, 3] ?_
        refine at_loopB (e0 := [(5, _)]) (H0 := _) (n := _) (fun m e H => ∃ (i : Nat), m = a.paths.length - i ∧ (i ≤ a.paths.length ∧ ∀ j, j < i → a.paths[j]? = b.paths[j]?) ∧ e = [(5, .int .i64 (i : Int))] ∧ H = []) (by exact ⟨0, rfl, ⟨Nat.zero_le _, by intro j hj; omega⟩, rfl, rfl⟩) (by repeat (first | exact Pull.nil _ | (apply Pull.cons; (focus (repeat (first | exact One.here _ _ | apply One.there)))))) ?_
        rintro _ _ _ ⟨i, rfl, ⟨hi, hall⟩, rfl, rfl⟩
        refine Zq <| Zq <| Zg <| Zm Y <| Zh 7 underlying37 rfl rfl sizeOf34 Y <| Zl isAgg34 Y ?_
        refine Zv (p_len_slice underlying34 Y) <| Zv (p_lss_nat Y Y) <| Z0 <| Zx ?_
        refine at_if Y (fun hlt => ?_) (fun hlt => ?_)
        ·
         obtain ⟨x, hx⟩ : ∃ x, a.paths[i]? = some x := ⟨_, List.getElem?_eq_getElem (by omega)⟩
         obtain ⟨y, hy⟩ : ∃ y, b.paths[i]? = some y := ⟨_, List.getElem?_eq_getElem (by omega)⟩
         obtain ⟨qx, cx, hux, g1, off1, cur1, T1, zz1, rfl, hm1, hex1⟩ := hg1 i x hx
         obtain ⟨qy, cy, huy, g2, off2, cur2, T2, zz2, rfl, hm2, hex2⟩ := hg2 i y hy
         refine at_skip <| Zx <| Zq <| at_block <| Zq <| at_draw (n := 12) (0 :: 1 :: 0 :: 7 :: 15 :: 0 :: 32 :: 0 :: 224 :: 480 :: 1023 :: 2047 :: []) 1024 (by kernel_rfl) (by kernel_rfl) rfl ?_
         refine Zi 1 0 rfl (p_fieldAddr0 (off := 7) underlying37 rfl rfl sizeOf34 Y) <| Zj 3 1 rfl isAgg34 Y ?_
         refine Zi 7 2 rfl (p_move Y) ?_
         (refine lin_v (D' := 15) 3 (p_indexAddr_nat1 underlying34 sizeOf35 Y Y ?_) ?_; (focus (first | omega | decide | (simp; done))))
         refine lin_rm (b := g1) (x := .cells cur1 T1 zz1) (D' := 31) 4 rfl rfl rfl (by simp [hm1]) (p_load isAgg35 Y (by exact hex1)) ?_
         refine Zi 63 5 rfl (p_fieldAddr0 (off := 7) underlying37 rfl rfl sizeOf34 Y) <| Zj 127 6 rfl isAgg34 Y ?_
         refine Zi 255 7 rfl (p_move Y) ?_
         (refine lin_v (D' := 511) 8 (p_indexAddr_nat1 underlying34 sizeOf35 Y Y ?_) ?_; (focus (first | omega | decide | (simp; done))))
         refine lin_rm (b := g2) (x := .cells cur2 T2 zz2) (D' := 1023) 9 rfl rfl rfl (by simp [hm2]) (p_load isAgg35 Y (by exact hex2)) ?_
         refine Zz (l := [10]) ?_
         refine Zy 1023 2047 [9, 6, 4, 1] [false, false, false, false] [] rfl Y rfl rfl rfl rfl (Zu [_, _] Y call52 Y rfl (r2_same hux huy)) ?hk_9 (fun _ _ h => h.elim) ?hl_9
         case hk_9 =>
          rintro _ _ ⟨rfl, rfl⟩
          refine ⟨keep_nil, ?_⟩
          refine Zi 4095 11 rfl (p_assign Y) <| lin_nil ?_
          refine Zn [2, 3, 5, 6] ?_
          refine Zx <| Zq <| Zg <| Zm Y <| Zv (p_not_dec Y) <| Z0 <| Zx ?_
          refine at_if Y (fun hd => ?_) (fun hd => ?_)
          ·
           refine Zq <| Zg <| Za Y <| Z0 <| Zx <| at_ret <| nx_block_ret <| Zt <| Zt <| nx_block_ret <| Zt ?_
           refine nx_end1 rfl results16 Y (by exact ⟨eq_false (fun e => by rw [e, hy] at hx; injection hx with hx; exact hd hx.symm), rfl⟩)
          ·
           have heq : x = y := Classical.not_not.1 hd
           refine at_skip <| nx_block_normal <| Zx <| Zg <| Zm Y <| Ya (n := 1) Y Y <| Za Y <| Z0 <| Zn [5, 2, 3] ?_
           refine nx_againB (e' := [(5, _)]) (m := _) (H' := _) (by exact ⟨i + 1, rfl, ⟨by omega, fun j hj => by rcases Nat.lt_or_ge j i with h9 | h9; exact hall j h9; obtain rfl : j = i := (by omega); rw [hx, hy]; exact congrArg some heq⟩, rfl, rfl⟩)
         case hl_9 =>
          exact each_nil
        ·
         have hpe : a.paths = b.paths := list_eq hpl (fun j hj => hall j (by omega))
         refine at_exit <| Zt <| Zt <| nx_block_exit <| Zx <| Zq <| Zg <| Zh 6 underlying37 rfl rfl sizeOf33 Y <| Zl isAgg33 Y ?_
         refine Zh 6 underlying37 rfl rfl sizeOf33 Y <| Zl isAgg33 Y ?_
         refine Zr [_, _] Y call17 Y rfl (r4_same hR1 hR2) ?_
         rintro _ _ ⟨rfl, rfl⟩
         refine Zm Y ?_
         refine ops_split (t := 81) Y rfl (fun h2 => ?_) (fun h2 => ?_)
         ·
          refine Yf 8 underlying37 rfl rfl sizeOf35 Y <| Yl isAgg35 Y ?_
          refine Yf 8 underlying37 rfl rfl sizeOf35 Y <| Yl isAgg35 Y ?_
          refine Zr [_, _] Y call52 Y rfl (r2_same hT1 hT2) ?_
          rintro _ _ ⟨rfl, rfl⟩
          refine Zv (p_pick_t Y Y) <| Za Y <| Z0 <| Zn [4] ?_
          refine Zx <| at_ret ?_
          refine nx_end1 rfl results16 Y (by exact ⟨by exact dec_bool ⟨fun h9 => rp_eq.2 ⟨hpe, hnum, h2, h9⟩, fun h9 => (rp_eq.1 h9).2.2.2⟩, rfl⟩)
         ·
          refine op_skip Y rfl <| op_skip Y rfl <| op_skip Y rfl <| op_skip Y rfl <| op_skip Y rfl <| Zv (p_pick_f Y Y) <| Za Y <| Z0 <| Zn [4] ?_
          refine Zx <| at_ret ?_
          refine nx_end1 rfl results16 Y (by exact ⟨by exact eq_false (fun e => h2 (rp_eq.1 e).2.2.1), rfl⟩)

end Go.Proofs.YtjeepldonhgohaaGreatDoor


namespace Go.Proofs.YtjeepldonhgohaaGreatDoor
open Go.Proofs.Tryz
open Go Go.RowKit Gw
set_option linter.unusedVariables false
set_option linter.unusedSimpArgs false
set_option maxRecDepth 100000
attribute [local irreducible] Gw.At Gw.Nx Gw.Ops
set_option maxHeartbeats 1000000 in
theorem damaged_law {M : List Chunk} {v : Value} {xs : List (List Int)} (hX : SixIn M v xs) (a b c d e9 f9 g9 : Int) (ha1 : -9223372036854775808 ≤ a) (ha2 : a ≤ 9223372036854775807) (hb1 : -9223372036854775808 ≤ b) (hb2 : b ≤ 9223372036854775807) (hc1 : -9223372036854775808 ≤ c) (hc2 : c ≤ 9223372036854775807) (hd1 : -9223372036854775808 ≤ d) (hd2 : d ≤ 9223372036854775807) (he91 : -9223372036854775808 ≤ e9) (he92 : e9 ≤ 9223372036854775807) (hf91 : -9223372036854775808 ≤ f9) (hf92 : f9 ≤ 9223372036854775807) (hg91 : -9223372036854775808 ≤ g9) (hg92 : g9 ≤ 9223372036854775807) (Tg : TypeId) (zg : Nat × Nat) : DoesR Tryz.prog 6 #[v, .agg #[.int .i64 a, .int .i64 b, .int .i64 c, .int .i64 d], .agg #[.int .i64 e9, .int .i64 f9, .int .i64 g9]] [[(0, .cells (kTab.map u32v).toArray Tg zg)], M] (.bool true) := by
 have hml : maxLen = 9223372036854775807 := rfl
 have hp1 := pickN_lt a 4 (by decide)
 have hp2 := pickN_lt b 4 (by decide)
 have hp3 := pickN_lt c 40 (by decide)
 have hp4 := pickN_lt d 20 (by decide)
 have hp5 := pickN_lt e9 5 (by decide)
 obtain ⟨kd, hkd, hk5, hk0, hk8⟩ := kinds (pickN e9 5) hp5
 refine spec_enter func6 rfl ntmps6 rfl ?_
 intro u R
 refine Zb [0, 1, 2] ?_
 refine Zq <| Zg <| Ze (w_box Y (cs := #[_, _, _, _]) rfl) ?_
 rintro _ _ ⟨bq, rfl, rfl⟩
 refine Ze (w_box Y (cs := #[_, _, _]) rfl) ?_
 rintro _ _ ⟨bw, rfl, rfl⟩
 refine Za Y <| Z0 <| Zx <| Zq <| Zg <| Zr [] Y call7 Y rfl (sane10 Tg zg) ?_
 rintro _ _ ⟨rfl, rfl⟩
 refine Za Y <| Z0 <| Zx <| Zq <| Zg <| Zm Y <| Zc [_] Y call8 Y rfl (state_F hX) ?_
 rintro _ _ ⟨_, ⟨sp, mm, es, ck, lm, rp, w, sv, sl, l, hlog, hlF, rfl, hm, hR, hrw, rfl⟩, rfl⟩
 obtain ⟨hs, hn⟩ := hlog.all
 have hok := hlog.rowsOk l.length (Nat.le_refl _)
 rw [List.take_length] at hok
 have hrF := rowsC_of l
 obtain ⟨rs, hrs⟩ : ∃ rs, rs = rowsOf l := ⟨_, rfl⟩
 rw [← hrs] at hR hs hn hok hrw hrF
 have hst : StIs (.pointer (some ⟨sp, 0, none⟩)) (l.length : Int) rs [(sp, .cells #[.map (some mm), .int .i64 (l.length : Int)] 154 (0, 0)), (mm, .map es ck)] := ⟨sp, mm, es, ck, lm, rfl, hm, hR, hs, hn, rfl⟩
 refine Zm Y <| Zd Y rfl <| Zd Y rfl <| Za Y <| Za Y <| Z0 <| Zx <| Zq <| at_join (s1 := [(sp, _)]) (s2 := [(mm, _)]) (by repeat (first | exact One.here _ _ | apply One.there)) (by repeat (first | exact One.here _ _ | apply One.there)) ?_
 refine Zg <| Zo (by repeat (first | exact Has.here _ | apply Has.there)) (p_load_agg (cs := #[_, _, _, _]) isAgg23 sizeOf23 Y (by first | decide | exact Nat.le_refl _ | (simp; done) | (simp; omega)) (by rfl)) ?_
 refine Zr [_] Y call11 Y rfl (asked_spec a b c d ha1 ha2 hb1 hb2 hc1 hc2 hd1 hd2) ?_
 rintro _ _ ⟨rfl, rfl⟩
 refine Ze (w_alloc zeroValue23 (cs := #[_, _, _, _]) rfl) ?_
 rintro _ _ ⟨by_, rfl, rfl⟩
 refine Ze (w_store_agg sizeOf23 Y Y (by (simp [Value.oneCell']; done)) (by repeat (first | exact Upd.here _ | apply Upd.there)) (by exact (rfl : _ = (#[.int .i64 (pickN a 4 : Int), .int .i64 (pickN b 4 : Int), .int .i64 ((pickN c 40 : Int) - 20), .int .i64 ((pickN c 40 : Int) - 20 + (pickN d 20 : Int))] : Array Value))) (by first | rfl | (simp; done)) (by first | decide | exact Nat.le_refl _ | (simp; done) | (simp; omega)) (by exact free_zero _)) ?_
 rintro _ _ ⟨rfl, rfl⟩
 refine Z0 <| Zn [5, 7, 8, 9, 10] ?_
 refine Zx <| Zq <| Zg <| Zm Y ?_
 (refine op_v (p_indexAddr_arr0 (j := 0) underlying23 sizeOf3 Y Y ?_) ?_; (focus (first | omega | decide | (simp; done))))
 refine Zl isAgg3 Y ?_
 (refine op_v (p_indexAddr_arr0 (j := 1) underlying23 sizeOf3 Y Y ?_) ?_; (focus (first | omega | decide | (simp; done))))
 refine Zl isAgg3 Y ?_
 (refine op_v (p_indexAddr_arr0 (j := 2) underlying23 sizeOf3 Y Y ?_) ?_; (focus (first | omega | decide | (simp; done))))
 refine Zl isAgg3 Y ?_
 (refine op_v (p_indexAddr_arr0 (j := 3) underlying23 sizeOf3 Y Y ?_) ?_; (focus (first | omega | decide | (simp; done))))
 refine Zl isAgg3 Y ?_
 refine Zc [_, _, _, _, _] Y call12 Y rfl (prove_spec _ _ rs _ hst hs hn hok (pickN a 4) (pickN b 4) (by omega) (by omega) ((pickN c 40 : Int) - 20) ((pickN c 40 : Int) - 20 + (pickN d 20 : Int)) (by omega) Tg zg) ?_
 rintro _ _ ⟨_, ⟨va, ma, rfl, hA, rfl⟩, rfl⟩
 obtain ⟨ra, pa, ta, rfl, hRa, hPa, hTa⟩ := id hA
 obtain ⟨qra, cra, rfl, hlra, hgra⟩ := id hRa
 obtain ⟨qpa, cpa, rfl, hlpa, hgpa⟩ := id hPa
 obtain ⟨qta, cta, rfl, hlta, hgta⟩ := id hTa
 have hIa := prove_damI hs hn hok (pickN a 4) (pickN b 4) ((pickN c 40 : Int) - 20) ((pickN c 40 : Int) - 20 + (pickN d 20 : Int)) (by omega) (by omega) (by omega)
 refine Zm Y <| Zd Y rfl <| Zd Y rfl <| Ze (w_alloc zeroValue37 (cs := #[_, _, _, _, _, _, _, _, _]) rfl) ?_
 rintro _ _ ⟨ba, rfl, rfl⟩
 refine Ze (w_store_agg sizeOf37 Y Y (by (simp [Value.oneCell']; done)) (by repeat (first | exact Upd.here _ | apply Upd.there)) (by exact (rfl : _ = (#[_, _, _, _, _, _, _, _, _] : Array Value))) (by first | rfl | (simp; done)) (by first | omega | decide | (simp; done)) (by exact free_zero _)) ?_
 rintro _ _ ⟨rfl, rfl⟩
 refine Za Y <| Z0 <| Zn [5, 7, 8, 9, 11, 12] ?_
 refine Zx <| Zq <| Zq <| Zg <| Zm Y <| Zv (p_neq_nat (n := 0) Y Y) <| Zm Y ?_
 refine ops_split (t := 39) Y rfl (fun k1 => ?_) (fun k1 => ?_)
 ·
  exact absurd rfl k1
 ·
  refine op_rg Y (by repeat (first | exact Has.here _ | apply Has.there)) (p_load_agg (cs := #[_, _, _, _, _, _, _, _, _]) isAgg37 sizeOf37 Y (by first | decide | exact Nat.le_refl _ | (simp; done) | (simp; omega)) (by rfl)) rfl rfl ?_
  refine Zr [_] Y call19 Y rfl (whole_spec hA) ?_
  rintro _ _ ⟨rfl, rfl⟩
  rw [decide_eq_true (show (proveT rs (pickN a 4) (pickN b 4) ((pickN c 40 : Int) - 20) ((pickN c 40 : Int) - 20 + (pickN d 20 : Int))).roots.length = 16 ∧ (proveT rs (pickN a 4) (pickN b 4) ((pickN c 40 : Int) - 20) ((pickN c 40 : Int) - 20 + (pickN d 20 : Int))).paths.length = (proveT rs (pickN a 4) (pickN b 4) ((pickN c 40 : Int) - 20) ((pickN c 40 : Int) - 20 + (pickN d 20 : Int))).rows.length from ⟨hIa.nt, hIa.np⟩)]
  refine Yg (p_not Y) <| Zv (p_pick_f Y Y) <| Z0 <| Zx ?_
  refine at_if_bool Y (fun k2 => ?_) (fun k2 => ?_)
  ·
   cases k2
  ·
   refine at_skip <| Zx <| Zq <| Zg <| Ze (w_buildSlice (vs := [_, _, _, _, _]) (cs := [_, _, _, _, _]) underlying61 sizeOf3 zeroValue3 Y rfl rfl rfl rfl rfl) ?_
   rintro _ _ ⟨gk, rfl, rfl⟩
   (refine op_v (p_indexAddr_arr0 (j := 0) underlying47 sizeOf3 Y Y ?_) ?_; (focus (first | omega | decide | (simp; done))))
   refine Zl isAgg3 Y ?_
   refine Zr [_, _] Y call29 Y rfl (pick10 e9 5 (by decide) (by decide) he91 he92) ?_
   rintro _ _ ⟨rfl, rfl⟩
   (refine op_v (p_indexAddr_nat0 underlying61 sizeOf3 Y Y ?_) ?_; (focus (first | omega | decide | (simp; done))))
   refine Zl isAgg3 Y (hv := by exact hkd) ?_
   refine Za Y <| Z0 <| Zn [5, 7, 8, 9, 11, 13] ?_
   refine Zx <| Zq <| Zg <| Zo (by repeat (first | exact Has.here _ | apply Has.there)) (p_load_agg (cs := #[_, _, _, _, _, _, _, _, _]) isAgg37 sizeOf37 Y (by first | omega | decide | (simp; done)) (by rfl)) ?_
   refine Zm Y ?_
   (refine op_v (p_indexAddr_arr0 (j := 1) underlying47 sizeOf3 Y Y ?_) ?_; (focus (first | omega | decide | (simp; done))))
   refine Zl isAgg3 Y ?_
   (refine op_v (p_indexAddr_arr0 (j := 2) underlying47 sizeOf3 Y Y ?_) ?_; (focus (first | omega | decide | (simp; done))))
   refine Zl isAgg3 Y ?_
   refine Zv (p_build (vs := [(0, _), (1, _), (2, _)]) (cs := #[_, _, _]) Y (run_build_array zeroValue47 underlying47 sizeOf3 rfl)) ?_
   refine Zc [_, _] Y call21 Y rfl (damaged_spec hA hIa (by decide) kd f9 g9 (by omega) (by omega) hf91 hf92 hg91 hg92 Tg zg) ?_
   rintro _ _ ⟨_, ⟨md, hD, hsub, rfl⟩, rfl⟩
   have hcol := dam_coll hs hn hok (t := pickN a 4) (c := pickN b 4) (by omega) (by omega) (lo := ((pickN c 40 : Int) - 20)) (hi := ((pickN c 40 : Int) - 20 + (pickN d 20 : Int))) (by omega) (f := f9) (g := g9) hk5
   have hId := damI_step hIa kd f9 g9
   obtain ⟨D9, hD9⟩ : ∃ D9, D9 = damT (proveT rs (pickN a 4) (pickN b 4) ((pickN c 40 : Int) - 20) ((pickN c 40 : Int) - 20 + (pickN d 20 : Int))) kd f9 g9 := ⟨_, rfl⟩
   rw [← hD9] at hD hcol hId
   obtain ⟨rd, pd, td, rfl, hRd, hPd, hTd⟩ := id hD
   obtain ⟨qrd, crd, rfl, hlrd, hgrd⟩ := id hRd
   obtain ⟨qpd, cpd, rfl, hlpd, hgpd⟩ := id hPd
   obtain ⟨qtd, ctd, rfl, hltd, hgtd⟩ := id hTd
   refine Ze (w_alloc zeroValue37 (cs := #[_, _, _, _, _, _, _, _, _]) rfl) ?_
   rintro _ _ ⟨bd, rfl, rfl⟩
   refine Ze (w_store_agg sizeOf37 Y Y (by (simp [Value.oneCell']; done)) (by repeat (first | exact Upd.here _ | apply Upd.there)) (by exact (rfl : _ = (#[_, _, _, _, _, _, _, _, _] : Array Value))) (by first | rfl | (simp; done)) (by first | omega | decide | (simp; done)) (by exact free_zero _)) ?_
   rintro _ _ ⟨rfl, rfl⟩
   refine Z0 <| Zx <| Zq <| Zq <| Zg <| Zo (by repeat (first | exact Has.here _ | apply Has.there)) (p_load_agg (cs := #[_, _, _, _, _, _, _, _, _]) isAgg37 sizeOf37 Y (by first | decide | exact Nat.le_refl _ | (simp; done) | (simp; omega)) (by rfl)) ?_
   refine Zo (by repeat (first | exact Has.here _ | apply Has.there)) (p_load_agg (cs := #[_, _, _, _, _, _, _, _, _]) isAgg37 sizeOf37 Y (by first | decide | exact Nat.le_refl _ | (simp; done) | (simp; omega)) (by rfl)) ?_
   refine Zr [_, _] Y call16 Y rfl (r10_same (hA.mono hsub) hD) ?_
   rintro _ _ ⟨rfl, rfl⟩
   refine Z0 <| Zn [7, 8, 9, 14, 60] ?_
   refine Zx ?_
   refine at_if Y (fun hsm => ?_) (fun hsm => ?_)
   ·
    refine Zq <| Zg <| Zm Y <| Za Y <| Z0 <| Zx <| at_ret <| Zt ?_
    refine nx_end1 rfl results6 Y (by exact ⟨rfl, rfl⟩)
   ·
    refine at_skip <| Zx <| Zq <| at_draw (n := 5) (0 :: 1 :: 0 :: 7 :: 15 :: []) 10 (by kernel_rfl) (by kernel_rfl) rfl ?_
    refine Zi 1 0 rfl (p_move Y) <| lin_r (D' := 5) 2 rfl rfl rfl (by repeat (first | exact Has.here _ | apply Has.there)) (p_load_agg (cs := #[_, _, _, _, _, _, _, _, _]) isAgg37 sizeOf37 Y (by first | decide | exact Nat.le_refl _ | (simp; done) | (simp; omega)) (by rfl)) ?_
    refine Zz (l := [1]) ?_
    refine Zy 1 7 [2] [true] [(2, (_, _))] rfl Y rfl rfl rfl rfl (Zu [_] Y call9 Y rfl (root_st _ _ rs _ hst hs hn hok Tg zg)) ?hk_2 (fun _ _ h => h.elim) ?hl_2
    case hk_2 =>
     rintro _ _ ⟨rfl, rfl⟩
     refine ⟨Zk (keep_nil), ?_⟩
     refine Zz (l := [3]) ?_
     refine Zy 7 15 [2] [false] [] rfl Y rfl rfl rfl rfl (Zu [_, _] Y call23 Y rfl (verify_proof hD (fun s h => by have := hId.sr s h; omega) hId.sp (rootS rs) Tg zg)) ?hk_3 (fun _ _ h => h.elim) ?hl_3
     case hk_3 =>
      rintro _ _ ⟨rfl, rfl⟩
      refine ⟨keep_nil, ?_⟩
      refine Zi 31 4 rfl (p_assign Y) <| lin_nil ?_
      refine Zx <| Zq <| Zg <| Zm Y <| Zm Y ?_
      refine ops_split_bool (t := 67) Y rfl (fun k3 => ?_) (fun k3 => ?_)
      ·
       refine Zf Y Y <| Yg (p_not_dec Y) <| Zf Y Y ?_
       refine ops_split (t := 70) Y rfl (fun hacc => ?_) (fun hacc => ?_)
       ·
        refine op_skip Y rfl <| op_skip Y rfl <| op_skip Y rfl <| op_skip Y rfl <| op_skip Y rfl <| Yg (p_pick_t Y Y) <| Zv (p_pick_t Y Y) <| Za Y <| Z0 <| Zn [6] ?_
        refine Zx <| at_ret ?_
        refine nx_end1 rfl results6 Y (by exact ⟨rfl, rfl⟩)
       ·
        have hV : VerP (rootS rs) D9 := by exact Classical.not_not.1 hacc
        have hcl := hcol hsm hV
        have hA2 := all_ok hs hn hok
        have hcn := computed_len hId.sp (by rw [hId.nt]; decide) hId.nr
        have hsp := ver_paths hV
        refine op_rg Y (by repeat (first | exact Has.here _ | apply Has.there)) (p_load_agg (cs := #[_, _, _, _, _, _, _, _, _]) isAgg37 sizeOf37 Y (by first | decide | exact Nat.le_refl _ | (simp; done) | (simp; omega)) (by rfl)) rfl rfl ?_
        refine Zc [_] Y call27 Y rfl (r10_computed hD hV.comp (by rw [hId.nt]; decide) hId.sr hId.sp hsp) ?_
        rintro _ _ ⟨_, ⟨so1, ho1, rfl⟩, rfl⟩
        have hU1 := strsU_row (rowS_eq ho1 rfl rfl) (by omega)
        refine Zf Y Y <| Zc [_] Y call28 Y rfl (r10_all rp _ w rs sv hrw hn hs hok) ?_
        rintro _ _ ⟨_, ⟨so2, ho2, rfl⟩, rfl⟩
        have hU2 := strsU_row (rowS_eq ho2 rfl rfl) (by omega)
        refine Zr [_, _] Y call26 Y rfl (r10_coll hU1 hU2 hcn (computed_ok hV.comp hId.sr hsp) (fun s h => by have := hA2.1 s h; omega)) ?_
        rintro _ _ ⟨rfl, rfl⟩
        rw [decide_eq_true hcl]
        refine Yg (p_pick_f Y Y) <| Zv (p_pick_t Y Y) <| Za Y <| Z0 <| Zn [6] ?_
        refine Zx <| at_ret ?_
        refine nx_end1 rfl results6 Y (by exact ⟨rfl, rfl⟩)
      ·
       cases k3
     case hl_3 =>
      exact each_nil
    case hl_2 =>
     exact each_nil

end Go.Proofs.YtjeepldonhgohaaGreatDoor


namespace Go.Proofs.YtjeepldonhgohaaGreatDoor
open Go.Proofs.Tryz
open Go Go.RowKit Gw
set_option linter.unusedVariables false
set_option linter.unusedSimpArgs false
set_option maxRecDepth 100000
attribute [local irreducible] Gw.At Gw.Nx Gw.Ops
theorem damaged_card (p : Option Addr) (cap : Nat) (ys : List (List Int)) (M : List Chunk) (hX : SixIn M (.slice p ys.length cap) ys) (a b c d : Int) (ha : -9223372036854775808 ≤ a ∧ a ≤ 9223372036854775807) (hb : -9223372036854775808 ≤ b ∧ b ≤ 9223372036854775807) (hc : -9223372036854775808 ≤ c ∧ c ≤ 9223372036854775807) (hd : -9223372036854775808 ≤ d ∧ d ≤ 9223372036854775807) (e f g : Int) (he : -9223372036854775808 ≤ e ∧ e ≤ 9223372036854775807) (hf : -9223372036854775808 ≤ f ∧ f ≤ 9223372036854775807) (hg : -9223372036854775808 ≤ g ∧ g ≤ 9223372036854775807) (Tg : TypeId) (zg : Nat × Nat) :
    DoesR Tryz.prog 6 #[.slice p ys.length cap, .agg #[.int .i64 a, .int .i64 b, .int .i64 c, .int .i64 d], .agg #[.int .i64 e, .int .i64 f, .int .i64 g]] [[(0, .cells (kTab.map u32v).toArray Tg zg)], M] (.bool true) := damaged_law hX a b c d e f g ha.1 ha.2 hb.1 hb.2 hc.1 hc.2 hd.1 hd.2 he.1 he.2 hf.1 hf.2 hg.1 hg.2 Tg zg

end Go.Proofs.YtjeepldonhgohaaGreatDoor
