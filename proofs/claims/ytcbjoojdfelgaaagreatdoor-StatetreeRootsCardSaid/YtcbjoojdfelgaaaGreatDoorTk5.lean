/- The law StatetreeRoots. -/
/- StatetreeRoots as its card wants it. -/
import Derived.Test.YtcbjoojdfelgaaaGreatDoorEz
import Derived.Test.YtcbjoojdfelgaaaGreatDoorLd1
import Derived.Test.YtcbjoojdfelgaaaGreatDoorTr18
import Derived.Test.YtcbjoojdfelgaaaGreatDoorTr21

namespace Go.Proofs.YtcbjoojdfelgaaaGreatDoor
open Go.Proofs.Tryz
open Go Go.RowKit Gw
set_option linter.unusedVariables false
set_option linter.unusedSimpArgs false
set_option maxRecDepth 100000
attribute [local irreducible] Gw.At Gw.Nx Gw.Ops
theorem st_applyS {v : Value} {p : Int} {rs : List RowM} {s : List Chunk} (hv : StIs v p rs s) (rp : Int) (M : List Chunk) (q : Option Addr) (cap n : Nat) (cs : List Chg) (he : cs.length = n) (hO : ChgsIn M (.slice q cs.length cap) cs) (hA : AppOk rs p rp cs) : Does Tryz.prog 15 #[v, .agg #[.int .i64 rp, .slice q n cap]] [s, M] (fun r H' => r = .int .i64 0 ∧ ∃ s', StIs v rp (putAllR rs cs) s' ∧ H' = [s', M]) := by
  subst he
  obtain ⟨sp, mb, es, ck, lm, rfl, hm, hR, hs, hn, rfl⟩ := hv
  refine does_re (st_apply sp mb p rp es ck lm rs M q cap cs hm hR hO hs hn hA) (by simp) ?_
  rintro r H' ⟨rfl, es', ck', lm', hm', hR', rfl⟩
  exact ⟨_, ⟨rfl, _, ⟨sp, mb, es', ck', lm', rfl, hm', hR', (app_sorted hs hA).1, (app_sorted hs hA).2, rfl⟩, rfl⟩, by simp⟩
theorem last_log {l : List RecM} (h : LogOk l) {p : Int} {q : Option Addr} {cap : Nat} {cs : List Chg} (hr : l[l.length - 1]? = some ⟨p, q, cap, cs⟩) : AppOk (rowsOf (l.take (l.length - 1))) ((l.length - 1 : Nat) : Int) ((l.length : Nat) : Int) cs ∧ putAllR (rowsOf (l.take (l.length - 1))) cs = rowsOf l := by
  have hlt := (List.getElem?_eq_some_iff.1 hr).1
  obtain ⟨hA, _⟩ := h _ _ hr
  have e : p = (l.length : Int) := by have h9 := hA.pos; change p = _ at h9; omega
  subst e
  refine ⟨hA, ?_⟩
  rw [show putAllR (rowsOf (l.take (l.length - 1))) cs = putAllR (rowsOf (l.take (l.length - 1))) (RecM.mk (l.length : Int) q cap cs).cs from rfl, ← rowsOf_snoc, ← take_snoc hr, show l.length - 1 + 1 = l.length by omega, List.take_length]
theorem undo_snoc {cs : List Chg} {k : Nat} {x : Chg} (hx : cs[k]? = some x) : (cs.take (k + 1)).map undo = (cs.take k).map undo ++ [undo x] := by rw [take_snoc hx, List.map_append]; rfl
theorem nat_pred {n : Nat} (h : 0 < n) : ((n - 1 : Nat) : Int) + 1 = (n : Int) := by omega

set_option maxHeartbeats 1000000 in
theorem roots_law {M : List Chunk} {v vy : Value} {xs ys : List (List Int)} (hX : SixIn M v xs) (hY : SixIn M vy ys) (Tg : TypeId) (zg : Nat × Nat) : DoesR Tryz.prog 3 #[v, vy] [[(0, .cells (kTab.map u32v).toArray Tg zg)], M] (.bool true) := by
 have hml : maxLen = 9223372036854775807 := rfl
 obtain ⟨py, capy, rfl, hyl, hgy⟩ := id hX
 have hX2 := six_take hX (min xs.length 20) (Nat.min_le_left _ _)
 have hyk : (xs.take (min xs.length 20)).length ≤ 20 := by rw [List.length_take]; omega
 refine spec_enter func3 rfl ntmps3 rfl ?_
 intro u R
 refine Zb [0, 1] ?_
 refine Zq <| Zg <| Za Y <| Z0 <| Zx <| Zq <| Zg <| Zr [] Y call7 Y rfl (sane10 Tg zg) ?_
 rintro _ _ ⟨rfl, rfl⟩
 refine Za Y <| Z0 <| Zx <| Zq <| Zg <| Zm Y <| Zc [_] Y call8 Y rfl (state_F hX) ?_
 rintro _ _ ⟨_, ⟨sp, mm, es, ck, lm, rp, w, sv, sl, l, hlog, hlF, rfl, hm, hR, hrw, rfl⟩, rfl⟩
 obtain ⟨hs, hn⟩ := hlog.all
 have hok := hlog.rowsOk l.length (Nat.le_refl _)
 rw [List.take_length] at hok
 have hrF := rowsC_of l
 obtain ⟨rs, hrs⟩ : ∃ rs, rs = rowsOf l := ⟨_, rfl⟩
 rw [← hrs] at hR hs hn hok hrw hrF
 have hst : StIs (.pointer (some ⟨sp, 0, none⟩)) (l.length : Int) rs [(sp, .cells #[.map (some mm), .int .i64 (l.length : Int)] 92 (0, 0)), (mm, .map es ck)] := ⟨sp, mm, es, ck, lm, rfl, hm, hR, hs, hn, rfl⟩
 refine Zm Y <| Zd Y rfl <| Zd Y rfl <| Za Y <| Za Y <| Z0 <| Zx <| Zq <| at_join (s1 := [(sp, _)]) (s2 := [(mm, _)]) (by repeat (first | exact One.here _ _ | apply One.there)) (by repeat (first | exact One.here _ _ | apply One.there)) ?_
 refine Zg <| Zm Y <| Zc [_] Y call8 Y rfl (state_F hY) ?_
 rintro _ _ ⟨_, ⟨spB, mmB, esB, ckB, lmB, rpB, wB, svB, slB, lB, hlogB, hlFB, rfl, hmB, hRB, hrwB, rfl⟩, rfl⟩
 obtain ⟨hsB, hnB⟩ := hlogB.all
 have hokB := hlogB.rowsOk lB.length (Nat.le_refl _)
 rw [List.take_length] at hokB
 have hrFB := rowsC_of lB
 obtain ⟨rsB, hrsB⟩ : ∃ rsB, rsB = rowsOf lB := ⟨_, rfl⟩
 rw [← hrsB] at hRB hsB hnB hokB hrwB hrFB
 have hstB : StIs (.pointer (some ⟨spB, 0, none⟩)) (lB.length : Int) rsB [(spB, .cells #[.map (some mmB), .int .i64 (lB.length : Int)] 92 (0, 0)), (mmB, .map esB ckB)] := ⟨spB, mmB, esB, ckB, lmB, rfl, hmB, hRB, hsB, hnB, rfl⟩
 refine Zm Y <| Zd Y rfl <| Zd Y rfl <| Za Y <| Za Y <| Z0 <| Zn [0, 5, 6, 7, 8, 9] ?_
 refine Zx <| Zq <| at_join (s1 := [(spB, _)]) (s2 := [(mmB, _)]) (by repeat (first | exact One.here _ _ | apply One.there)) (by repeat (first | exact One.here _ _ | apply One.there)) ?_
 have hUr := rowsU_row hrw (by omega)
 have hUu := rowsU_row hrwB (by omega)
 refine at_draw (n := 10) (0 :: 1 :: 3 :: 7 :: 0 :: 16 :: 48 :: 112 :: 255 :: 511 :: []) 256 (by kernel_rfl) (by kernel_rfl) rfl ?_
 refine Zi 1 0 rfl (p_move Y) <| Zi 3 1 rfl (p_nilChk Y rfl) <| Zi 7 2 rfl (p_fieldAddr0 (off := 0) underlying31 rfl rfl sizeOf29 Y) <| Zj 15 3 rfl isAgg29 Y ?_
 refine Zi 31 4 rfl (p_move Y) <| Zi 63 5 rfl (p_nilChk Y rfl) <| Zi 127 6 rfl (p_fieldAddr0 (off := 0) underlying31 rfl rfl sizeOf29 Y) <| Zj 255 7 rfl isAgg29 Y ?_
 refine Zz (l := [8]) ?_
 refine Zy 255 511 [7, 3] [false, false] [] rfl Y rfl rfl rfl rfl (Zu [_, _] Y call9 Y rfl (r4_same2 hUr hUu)) ?hk_1 (fun _ _ h => h.elim) ?hl_1
 case hk_1 =>
  rintro _ _ ⟨rfl, rfl⟩
  refine ⟨keep_nil, ?_⟩
  refine Zi 1023 9 rfl (p_assign Y) <| lin_nil ?_
  refine Zx <| Zb [7, 8, 9, 10, 0, 5, 6] ?_
  refine at_cutB (e0 := [(7, _), (8, _), (9, _), (10, _)]) (H0 := []) (fun e H => (True) ∧ e = [] ∧ H = []) (by repeat (first | exact Pull.nil _ | (apply Pull.cons; (focus (repeat (first | exact One.here _ _ | apply One.there)))))) ?hx_2 ?hy_2
  case hx_2 =>
   refine Zq <| Zg <| Zm Y <| Zm Y <| Zr [_] Y call10 Y rfl (root_st _ _ rs _ hst hs hn hok Tg zg) ?_
   rintro _ _ ⟨rfl, rfl⟩
   refine Zm Y <| Zr [_] Y call10 Y rfl (root_st _ _ rsB _ hstB hsB hnB hokB Tg zg) ?_
   rintro _ _ ⟨rfl, rfl⟩
   refine Zv (p_eql_str Y Y) <| Zv (p_neq_bool underlying4 Y Y) <| Z0 <| Zx ?_
   refine at_if_bool Y (fun hne => ?_) (fun hne => ?_)
   ·
    have hdif : rs ≠ rsB ∧ rootS rs = rootS rsB := by
      by_cases e : rs = rsB
      · subst e; simp at hne
      · refine ⟨e, ?_⟩
        by_cases e2 : rootS rs = rootS rsB
        · exact e2
        · rw [decide_eq_false e, decide_eq_false (fun h => e2 (str_inj h))] at hne; cases hne
    have hcoll : Coll (allT rs) (allT rsB) := (rows_bind hs hsB hok hokB hdif.2).resolve_left hdif.1
    have hA1 := all_ok hs hn hok
    have hA2 := all_ok hsB hnB hokB
    refine Zq <| Zg <| Zm Y <| Zc [_] Y call12 Y rfl (r10_all rp _ w rs sv hrw hn hs hok) ?_
    rintro _ _ ⟨_, ⟨so1, ho1, rfl⟩, rfl⟩
    have hU1 := strsU_row (rowS_eq ho1 rfl rfl) (by omega)
    refine Zm Y <| Zc [_] Y call12 Y rfl (r10_all rpB _ wB rsB svB hrwB hnB hsB hokB) ?_
    rintro _ _ ⟨_, ⟨so2, ho2, rfl⟩, rfl⟩
    have hU2 := strsU_row (rowS_eq ho2 rfl rfl) (by omega)
    refine Zr [_, _] Y call11 Y rfl (r10_coll hU1 hU2 (by omega) (fun s h => by have := hA1.1 s h; omega) (fun s h => by have := hA2.1 s h; omega)) ?_
    rintro _ _ ⟨rfl, rfl⟩
    rw [decide_eq_true hcoll]
    refine Za Y <| Z0 <| Zn [0, 5, 6, 10, 11] ?_
    refine Zx <| Zq <| Zg <| Zm Y <| Zm Y ?_
    first | refine ops_split (t := 52) Y rfl (fun hq1 => ?_) (fun hq1 => ?_) | refine ops_split_bool (t := 52) Y rfl (fun hq1 => ?_) (fun hq1 => ?_)
    ·
     exact absurd hq1 hdif.1
    ·
     refine Zf Y Y ?_
     first | refine op_wg Y (p_not_dec Y) rfl rfl ?_ | refine op_wg Y (p_not Y) rfl rfl ?_
     refine Zv (p_pick_f Y Y) <| Z0 <| Zx ?_
     refine at_if_bool Y (fun hq2 => ?_) (fun hq2 => ?_)
     ·
      cases hq2
     ·
      refine at_skip <| Zn [0, 5, 6] ?_
      refine nx_cutB (e' := []) (H' := _) (by exact ⟨trivial, rfl, rfl⟩)
   ·
    refine at_skip <| Zn [0, 5, 6] ?_
    refine nx_cutB (e' := []) (H' := _) (by exact ⟨trivial, rfl, rfl⟩)
  case hy_2 =>
   rintro _ _ ⟨_, rfl, rfl⟩
   refine Zq <| Zg <| Zm Y <| Zm Y <| Zv (p_len_slice underlying22 Y) ?_
   first | refine op_v (p_min_nat (n := 20) Y Y) ?_ | refine op_v (p_min_int Y Y) ?_
   (refine op_v (p_slice_slice_to underlying22 sizeOf80 Y Y ?_) ?_; (focus (first | omega | (simp; omega))))
   refine Zc [_] Y call13 Y rfl (r4_logF hX2 (by omega)) ?_
   rintro _ _ ⟨_, ⟨l3, sl3, hlog3, hll3, hlF3, hRI3, rfl⟩, rfl⟩
   obtain ⟨pl3, capl3, rfl, hlc3, hgl3⟩ := id hRI3
   have he3 : l3.map RecM.cs = l.map RecM.cs := by rw [hlF3, hlF]
   have hlen3 : l3.length = l.length := by have := congrArg List.length he3; rwa [List.length_map, List.length_map] at this
   have hro3 : rowsOf l3 = rs := by rw [← rowsC_of, he3]; exact hrF
   refine Za Y <| Z0 <| Zx <| Zq <| Zq <| Zg <| Zm Y <| Zv (p_len_slice underlying36 Y) ?_
   first | refine op_v (p_eql_nat (n := 0) Y Y) ?_ | refine op_v (p_eql Y Y) ?_
   refine Z0 <| Zx ?_
   first | refine at_if Y (fun h0 => ?_) (fun h0 => ?_) | refine at_if_bool Y (fun h0 => ?_) (fun h0 => ?_)
   ·
    refine Zq <| Zg <| Zm Y <| Za Y <| Z0 <| Zx <| at_ret <| Zt ?_
    refine nx_end1 rfl results3 Y (by exact ⟨rfl, rfl⟩)
   ·
    obtain ⟨x3, hx3⟩ : ∃ x, l3[l3.length - 1]? = some x := ⟨_, List.getElem?_eq_getElem (by omega)⟩
    obtain ⟨xp, xq, xcap, xcs⟩ := x3
    obtain ⟨hA3, hput3⟩ := last_log hlog3 hx3
    obtain ⟨hO3, g, off, cur, T, zz, rfl, hm9, hsz9, hex9⟩ := hgl3 _ _ hx3
    change ChgsIn _ (.slice xq xcs.length xcap) xcs at hO3
    change cur.extract _ _ = #[.int .i64 xp, .slice xq xcs.length xcap] at hex9
    obtain ⟨rs0, hrs0⟩ : ∃ r, r = rowsOf (l3.take (l3.length - 1)) := ⟨_, rfl⟩
    have hr0 := hlog3.rows (l3.length - 1) (by omega)
    have hk0 := hlog3.rowsOk (l3.length - 1) (by omega)
    rw [← hrs0] at hA3 hput3 hr0 hk0
    obtain ⟨hA9, hB9⟩ := undo_app hr0.1 hr0.2 ((nat_pred (show 0 < l3.length by omega)).symm ▸ hA3) (by omega)
    rw [hput3, hro3] at hA9 hB9
    rw [show ((l3.length - 1 : Nat) : Int) + 2 = ((l3.length + 1 : Nat) : Int) by omega, nat_pred (show 0 < l3.length by omega)] at hA9
    obtain ⟨pc, capc, hvc, hcl, hgc⟩ := id hO3
    injection hvc with hv1 hv2 hv3
    subst hv1 hv3
    have hc3 := hA3.ok.len
    refine at_skip <| Zx <| Zq <| Zg <| Zm Y <| Zm Y <| Zv (p_len_slice underlying36 Y) ?_
    first | (refine op_v (p_sub_nat (n := 1) Y Y ?_ ?_) ?_; (focus (omega)); (focus (omega))) | (refine op_v (p_sub Y Y (IntWalk.i64_in _ ?_)) ?_; (focus (omega)))
    refine Zc [_, _] Y call14 Y rfl (st_at _ capl3 l3 sl3 hRI3 hlog3 (by omega) (l3.length - 1) (by omega)) ?_
    rintro _ _ ⟨_, ⟨sp3, mb3, es3, ck3, lm3, rfl, hm3, hR3, rfl⟩, rfl⟩
    rw [← hrs0] at hR3
    have hst3 : StIs (.pointer (some ⟨sp3, 0, none⟩)) ((l3.length - 1 : Nat) : Int) rs0 [(sp3, .cells #[.map (some mb3), .int .i64 ((l3.length - 1 : Nat) : Int)] 92 (0, 0)), (mb3, .map es3 ck3)] := ⟨sp3, mb3, es3, ck3, lm3, rfl, hm3, hR3, hr0.1, hr0.2, rfl⟩
    refine Zm Y <| Zd Y rfl <| Zd Y rfl <| Za Y <| Za Y <| Z0 <| Zn [5, 6, 12, 13, 14] ?_
    refine Zx <| Zq <| at_join (s1 := [(sp3, _)]) (s2 := [(mb3, _)]) (by repeat (first | exact One.here _ _ | apply One.there)) (by repeat (first | exact One.here _ _ | apply One.there)) ?_
    refine Zg <| Zm Y <| Zv (p_len_slice underlying36 Y) ?_
    first | (refine op_v (p_add_nat (n := 1) Y Y ?_) ?_; (focus (first | omega | (simp; omega)))) | (refine op_v (p_add Y Y (IntWalk.i64_in _ ?_)) ?_; (focus (first | omega | (simp; omega))))
    refine Zv (p_build (vs := [(0, _)]) (cs := #[_, _]) Y (run_build_struct (pl := #[(0, 1), (1, 1)]) zeroValue43 underlying43 (fun _ => by kernel_rfl) rfl)) ?_
    refine Ze (w_alloc zeroValue43 (cs := #[_, _]) rfl) ?_
    rintro _ _ ⟨bk, rfl, rfl⟩
    refine Ze (w_store_agg sizeOf43 Y Y (by first | (simp [Value.oneCell']; done) | (simp [Value.oneCell', Value.cells]; done)) (by repeat (first | exact Upd.here _ | apply Upd.there)) (by exact (rfl : _ = (#[.int .i64 ((l3.length + 1 : Nat) : Int), .slice none 0 0] : Array Value))) (by first | rfl | (simp; done)) (by first | decide | exact Nat.le_refl _ | (simp; done) | (simp; omega)) (by exact free_zero _)) ?_
    rintro _ _ ⟨rfl, rfl⟩
    refine Z0 <| Zx <| Zq <| Zg <| Zm Y <| Zm Y <| Zv (p_len_slice underlying36 Y) ?_
    first | (refine op_v (p_sub_nat (n := 1) Y Y ?_ ?_) ?_; (focus (omega)); (focus (omega))) | (refine op_v (p_sub Y Y (IntWalk.i64_in _ ?_)) ?_; (focus (omega)))
    (refine op_v (p_indexAddr_nat underlying36 sizeOf43 Y Y ?_) ?_; (focus (first | omega | decide | (simp; done))))
    refine Zv (p_fieldAddr1 (off := 1) underlying43 rfl rfl sizeOf41 Y) <| op_rm (cs := [(g, .cells cur T zz)]) (by simp [hm9]) (p_load isAgg41 Y (ext_at (j := 1) hex9 rfl)) rfl rfl ?_
    refine Za Y <| Z0 <| Zn [5, 6, 13, 14, 15, 16] ?_
    refine Zx <| Zq <| Zq <| Zg <| Za Y <| Z0 <| Zx <| at_block <| at_nil ?_
    refine Zb [17, 5, 6, 13, 14, 15, 16] ?_
    refine at_loopB (e0 := [(17, _)]) (H0 := _) (n := _) (fun m e H => ∃ (k : Nat) (vb : Value) (sb : List Chunk), m = xcs.length - k ∧ (k ≤ xcs.length ∧ RowS 10 46 vb k (chgCells ((xcs.take k).map undo)) sb) ∧ e = [(17, .int .i64 (k : Int))] ∧ H = [[(bk, .cells #[.int .i64 ((l3.length + 1 : Nat) : Int), vb] 43 (0, 0))], sb]) (by exact ⟨0, .slice none 0 0, [], rfl, ⟨Nat.zero_le _, rowS_nil 10 _⟩, rfl, rfl⟩) (by repeat (first | exact Pull.nil _ | (apply Pull.cons; (focus (repeat (first | exact One.here _ _ | apply One.there)))))) ?_
    rintro _ _ _ ⟨k, vb, sb, rfl, ⟨hk, hrb⟩, rfl, rfl⟩
    obtain ⟨qb, cb9, rfl⟩ := hrb.form
    refine Zq <| Zq <| Zg <| Zm Y <| Zm Y <| Zv (p_len_slice underlying41 Y) ?_
    first | refine op_v (p_lss_nat Y Y) ?_ | refine op_v (p_lss Y Y) ?_
    refine Z0 <| Zx ?_
    first | refine at_if Y (fun hkt => ?_) (fun hkt => ?_) | refine at_if_bool Y (fun hkt => ?_) (fun hkt => ?_)
    ·
     obtain ⟨y, hy⟩ : ∃ y, xcs[k]? = some y := ⟨_, List.getElem?_eq_getElem hkt⟩
     obtain ⟨g2, off2, cur2, T2, zz2, rfl, hm2, hsz2, hex2⟩ := hgc k y hy
     refine at_skip <| Zx <| Zq <| at_block <| Zq <| Zg <| Zm Y <| Zm Y ?_
     (refine op_v (p_indexAddr_nat underlying41 sizeOf46 Y Y ?_) ?_; (focus (first | omega | decide | (simp; done))))
     refine op_rm (cs := [(g2, .cells cur2 T2 zz2)]) (by simp [hm2]) (p_load_agg (cs := #[.int .i64 y.t, .int .i64 y.k, .bool y.had, .int .i64 y.o.a, .int .i64 y.o.b, .int .i64 y.o.c, .bool y.has, .int .i64 y.n.a, .int .i64 y.n.b, .int .i64 y.n.c]) isAgg46 sizeOf46 Y (by omega) hex2) rfl rfl ?_
     refine Ze (w_alloc zeroValue46 (cs := #[_, _, _, _, _, _, _, _, _, _]) rfl) ?_
     rintro _ _ ⟨cb, rfl, rfl⟩
     refine Ze (w_store_agg sizeOf46 Y Y (by first | (simp [Value.oneCell']; done) | (simp [Value.oneCell', Value.cells]; done)) (by repeat (first | exact Upd.here _ | apply Upd.there)) (by exact (rfl : _ = (#[.int .i64 y.t, .int .i64 y.k, .bool y.had, .int .i64 y.o.a, .int .i64 y.o.b, .int .i64 y.o.c, .bool y.has, .int .i64 y.n.a, .int .i64 y.n.b, .int .i64 y.n.c] : Array Value))) (by first | rfl | (simp; done)) (by first | omega | decide | (simp; done)) (by exact free_zero _)) ?_
     rintro _ _ ⟨rfl, rfl⟩
     refine Z0 <| Zx <| Zg <| Zh 1 underlying43 rfl rfl sizeOf41 Y <| Zl isAgg41 Y ?_
     refine Zh 0 underlying46 rfl rfl sizeOf3 Y <| Zl isAgg3 Y ?_
     refine Zh 1 underlying46 rfl rfl sizeOf3 Y <| Zl isAgg3 Y ?_
     refine Zh 6 underlying46 rfl rfl sizeOf4 Y <| Zl isAgg4 Y ?_
     refine Zh 7 underlying46 rfl rfl sizeOf44 Y <| Zo (by repeat (first | exact Has.here _ | apply Has.there)) (p_load_agg (cs := #[_, _, _]) isAgg44 sizeOf44 Y (by first | omega | decide | (simp; done)) (by rfl)) ?_
     refine Zh 2 underlying46 rfl rfl sizeOf4 Y <| Zl isAgg4 Y ?_
     refine Zh 3 underlying46 rfl rfl sizeOf44 Y <| Zo (by repeat (first | exact Has.here _ | apply Has.there)) (p_load_agg (cs := #[_, _, _]) isAgg44 sizeOf44 Y (by first | omega | decide | (simp; done)) (by rfl)) ?_
     refine Zv (p_build (vs := [(0, .int .i64 y.t), (1, .int .i64 y.k), (2, .bool y.has), (3, .agg #[.int .i64 y.n.a, .int .i64 y.n.b, .int .i64 y.n.c]), (4, .bool y.had), (5, .agg #[.int .i64 y.o.a, .int .i64 y.o.b, .int .i64 y.o.c])]) (cs := #[.int .i64 (undo y).t, .int .i64 (undo y).k, .bool (undo y).had, .int .i64 (undo y).o.a, .int .i64 (undo y).o.b, .int .i64 (undo y).o.c, .bool (undo y).has, .int .i64 (undo y).n.a, .int .i64 (undo y).n.b, .int .i64 (undo y).n.c]) Y (run_build_struct (pl := #[(0, 1), (1, 1), (2, 1), (3, 3), (6, 1), (7, 3)]) zeroValue46 underlying46 (fun _ => by kernel_rfl) (by kernel_rfl))) ?_
     refine Ze (w_buildSlice (vs := [_]) (cs := [_, _, _, _, _, _, _, _, _, _]) underlying41 sizeOf46 zeroValue46 Y rfl rfl rfl rfl rfl) ?_
     rintro _ _ ⟨gq, rfl, rfl⟩
     refine Ze (w_append_subS (by_ := 80) (sz := 10) underlying41 (rfl : Tryz.prog.info? 46 = some Tryz.t46) rfl rfl rfl rfl Y (hrb) Y (subS_new 10 gq 1 1 46 (0, 0) (chgCells [undo y]) rfl) (by repeat (first | exact One.here _ _ | apply One.there)) (by repeat (first | exact One.here _ _ | apply One.there)) (by exact chgCells_one _) (by omega) (by omega)) ?_
     rintro _ _ ⟨sw5, hrw5, rfl⟩
     obtain ⟨gw5, cw5, rfl⟩ := hrw5.form
     refine Zh 1 underlying43 rfl rfl sizeOf41 Y <| Ze (Zs sizeOf41 Y Y rfl (hi := by first | omega | decide | (simp; done))) ?_
     rintro _ _ ⟨rfl, rfl⟩
     refine Z0 <| Zn [5, 6, 13, 14, 15, 16, 17] ?_
     refine nx_block_normal <| Zx <| Zg <| Zm Y ?_
     first | (refine op_v (p_add_nat (n := 1) Y Y ?_) ?_; (focus (omega))) | (refine op_v (p_add Y Y (IntWalk.i64_in _ ?_)) ?_; (focus (omega)))
     refine Za Y <| Z0 <| Zn [17, 5, 6, 13, 14, 15, 16] ?_
     refine nx_againB (e' := [(17, _)]) (m := _) (H' := _) (by exact ⟨k + 1, _, _, rfl, ⟨by omega, rowS_eq hrw5 rfl (by rw [undo_snoc hy, chgCells_app])⟩, rfl, rfl⟩)
    ·
     have ek : k = xcs.length := by omega
     subst ek
     rw [List.take_length] at hrb
     have hOb : ChgsIn sb (.slice qb (xcs.map undo).length cb9) (xcs.map undo) := chgsIn_of (by rw [List.length_map]; exact hrb) (by rw [List.length_map]; omega)
     refine at_exit <| Zt <| Zt <| nx_block_exit <| Zx <| Zq <| Zg <| Zm Y <| Zm Y ?_
     refine ops_split_bool (t := 114) Y rfl (fun k1 => ?_) (fun k1 => ?_)
     ·
      refine Zf Y Y ?_
      first | refine op_wg Y (p_eql_nat (n := 0) Y Y) rfl rfl ?_ | refine op_wg Y (p_eql Y Y) rfl rfl ?_
      refine Zv (p_pick_t Y Y) <| Zm Y ?_
      first | refine ops_split (t := 118) Y rfl (fun k2 => ?_) (fun k2 => ?_) | refine ops_split_bool (t := 118) Y rfl (fun k2 => ?_) (fun k2 => ?_)
      ·
       refine Zf Y Y <| op_rg Y (by repeat (first | exact Has.here _ | apply Has.there)) (p_load_agg (cs := #[_, _]) isAgg43 sizeOf43 Y (by first | decide | exact Nat.le_refl _ | (simp; done) | (simp; omega)) (by rfl)) rfl rfl ?_
       refine Zc [_, _] Y call15 Y rfl (st_applyS hst ((l3.length + 1 : Nat) : Int) sb qb cb9 xcs.length (xcs.map undo) (List.length_map ..) hOb (by rw [← hlen3]; exact hA9)) ?_
       rintro _ _ ⟨_, ⟨rfl, s9, hst9, rfl⟩, rfl⟩
       rw [hB9] at hst9
       first | refine op_wg Y (p_eql_nat (n := 0) Y Y) rfl rfl ?_ | refine op_wg Y (p_eql Y Y) rfl rfl ?_
       refine Zv (p_pick_t Y Y) <| Zm Y ?_
       first | refine ops_split (t := 124) Y rfl (fun k3 => ?_) (fun k3 => ?_) | refine ops_split_bool (t := 124) Y rfl (fun k3 => ?_) (fun k3 => ?_)
       ·
        refine Zf Y Y <| Zr [_] Y call10 Y rfl (root_st _ _ rs0 _ hst9 hr0.1 hr0.2 hk0 Tg zg) ?_
        rintro _ _ ⟨rfl, rfl⟩
        refine Zf Y Y <| Zr [_] Y call10 Y rfl (root_st _ _ rs0 _ hst3 hr0.1 hr0.2 hk0 Tg zg) ?_
        rintro _ _ ⟨rfl, rfl⟩
        refine op_wg Y (p_eql_str Y Y) rfl rfl ?_
        refine Zv (p_pick_t Y Y) <| Za Y <| Z0 <| Zn [4] ?_
        refine Zx <| at_ret ?_
        refine nx_end1 rfl results3 Y (by exact ⟨congrArg Value.bool (decide_eq_true rfl), rfl⟩)
       ·
        exact absurd rfl k3
      ·
       exact absurd rfl k2
     ·
      cases k1
 case hl_1 =>
  exact each_nil

end Go.Proofs.YtcbjoojdfelgaaaGreatDoor


namespace Go.Proofs.YtcbjoojdfelgaaaGreatDoor
open Go.Proofs.Tryz
open Go Go.RowKit Gw
set_option linter.unusedVariables false
set_option linter.unusedSimpArgs false
set_option maxRecDepth 100000
attribute [local irreducible] Gw.At Gw.Nx Gw.Ops
theorem roots_card (p : Option Addr) (cap : Nat) (xs : List (List Int)) (M : List Chunk) (hX : SixIn M (.slice p xs.length cap) xs) (p2 : Option Addr) (cap2 : Nat) (ys : List (List Int)) (hY : SixIn M (.slice p2 ys.length cap2) ys) (Tg : TypeId) (zg : Nat × Nat) :
    DoesR Tryz.prog 3 #[.slice p xs.length cap, .slice p2 ys.length cap2] [[(0, .cells (kTab.map u32v).toArray Tg zg)], M] (.bool true) := roots_law hX hY Tg zg

end Go.Proofs.YtcbjoojdfelgaaaGreatDoor
