/- The program: row.EncodeRecord; logtree New, Next, own, Append. -/
import Derived.Test.YthbadolcncojbaaGreatDoorEz
import Derived.Test.YthbadolcncojbaaGreatDoorLg12
namespace Go.Proofs.YthbadolcncojbaaGreatDoor
open Go.Proofs.Tryz
open Go Go.RowKit Gw
set_option linter.unusedVariables false
set_option linter.unusedSimpArgs false
set_option maxRecDepth 100000
attribute [local irreducible] Gw.At Gw.Nx Gw.Ops
theorem rw_encrec (p : Int) (q : Option Addr) (cap : Nat) (cs : List Chg) (M : List Chunk) (hO : ChgsIn M (.slice q cs.length cap) cs) (hok : RecOk p cs) : DoesR Tryz.prog 12 #[.agg #[.int .i64 p, .slice q cs.length cap]] [M] (.tuple #[.string (str (encRec p cs)), .int .i64 0]) := by
 have hml : maxLen = 9223372036854775807 := rfl
 obtain ⟨p9, cap9, e9, hol, hg⟩ := id hO
 injection e9 with e91 e92 e93
 subst e91 e93
 have hnum := head_num hok
 have hlen := hok.len
 refine spec_enter func12 rfl ntmps12 rfl ?_
 intro u R
 refine Zb [0] ?_
 refine Zq <| Zg <| Ze (w_box Y (cs := #[_, _]) rfl) ?_
 rintro _ _ ⟨b1, rfl, rfl⟩
 refine Za Y <| Za Y <| Z0 <| Zx <| Zq <| Zq <| Zg <| Zo (by repeat (first | exact Has.here _ | apply Has.there)) (p_load_agg (cs := #[_, _]) isAgg41 sizeOf41 Y (by first | omega | decide | (simp; done)) (by rfl)) ?_
 refine Zr [_] Y call51 Y rfl (rw_validr p q cap cs M hO) ?_
 rintro _ _ ⟨rfl, rfl⟩
 rw [decide_eq_true hok]
 first | refine op_v (p_not_dec Y) ?_ | refine op_v (p_not Y) ?_
 refine Z0 <| Zx ?_
 refine at_if_bool Y (fun hv => ?_) (fun hv => ?_)
 ·
  cases hv
 ·
  refine at_skip <| Zx <| Zq <| Zg <| Zh 0 underlying41 rfl rfl sizeOf3 Y <| Zl isAgg3 Y ?_
  refine Zh 1 underlying41 rfl rfl sizeOf39 Y <| Zl isAgg39 Y ?_
  refine Zv (p_len_slice underlying39 Y) <| Ze (w_buildSlice (vs := [_, _]) (cs := [_, _]) underlying76 sizeOf3 zeroValue3 Y rfl rfl rfl rfl rfl) ?_
  rintro _ _ ⟨gb, rfl, rfl⟩
  refine Zr [_] Y call52 Y rfl (rw_put gb 0 2 _ _ _ [p, (cs.length : Int)] (ints_lit [p, (cs.length : Int)]) (by simp) hnum) ?_
  rintro _ _ ⟨rfl, rfl⟩
  refine Za Y <| Z0 <| Zn [1, 4] ?_
  refine Zx <| Zq <| Zq <| Zg <| Zh 1 underlying41 rfl rfl sizeOf39 Y <| Zl isAgg39 Y ?_
  refine Zv (p_len_slice underlying39 Y) <| Zm Y <| Z0 <| Zx <| at_block <| Zb [4, 22, 20, 21] ?_
  refine at_loopB (e0 := [(4, _), (22, _)]) (H0 := _) (n := _) (fun m e H => ∃ (i : Nat), m = cs.length - i ∧ (i ≤ cs.length) ∧ e = [(4, .string (str (putAll [p, (cs.length : Int)] ++ (cs.take i).flatMap encC))), (22, .int .i64 (i : Int))] ∧ H = []) (by exact ⟨0, rfl, Nat.zero_le _, by rw [List.take_zero, List.flatMap_nil, List.append_nil]; rfl, rfl⟩) (by repeat (first | exact Pull.nil _ | (apply Pull.cons; (focus (repeat (first | exact One.here _ _ | apply One.there)))))) ?_
  rintro _ _ _ ⟨i, rfl, hi, rfl, rfl⟩
  refine Zq <| Zg ?_
  first | refine op_v (p_lss_nat Y Y) ?_ | refine op_v (p_lss Y Y) ?_
  refine Z0 <| Zx <| Zq ?_
  first | refine at_if Y (fun hlt => ?_) (fun hlt => ?_) | refine at_if_bool Y (fun hlt => ?_) (fun hlt => ?_)
  ·
   obtain ⟨x, hx⟩ : ∃ x, cs[i]? = some x := ⟨_, List.getElem?_eq_getElem hlt⟩
   obtain ⟨g, off, cur, T, zz, rfl, hm, hsz, hex⟩ := hg i x hx
   obtain ⟨hn1, hn2, hn3, hn4⟩ := chg_num (hok.all i x hx)
   have hpl1 := putAll_len _ hn1
   have hpl2 := putAll_len _ hn2
   have hto := encTo_len hok i
   have hl3 : [x.t, x.k, fl2 x].length = 3 := rfl
   have hf1 := fl1_le x
   have hf3 := vs1_len x
   refine at_skip <| Zx <| Zq <| at_block <| Zq <| Zg ?_
   (refine op_v (p_indexAddr_nat underlying39 sizeOf90 Y Y ?_) ?_; (focus (first | omega | decide | (simp; done))))
   refine op_rm (cs := [(g, .cells cur T zz)]) (by simp [hm]) (p_load_agg (cs := #[.int .i64 x.t, .int .i64 x.k, .bool x.had, .int .i64 x.o.a, .int .i64 x.o.b, .int .i64 x.o.c, .bool x.has, .int .i64 x.n.a, .int .i64 x.n.b, .int .i64 x.n.c]) isAgg90 sizeOf90 Y (by omega) hex) rfl rfl ?_
   refine Ze (w_alloc zeroValue90 (cs := #[_, _, _, _, _, _, _, _, _, _]) rfl) ?_
   rintro _ _ ⟨cb, rfl, rfl⟩
   refine Ze (w_store_agg sizeOf90 Y Y (by first | (simp [Value.oneCell']; done) | (simp [Value.oneCell', Value.cells]; done)) (by repeat (first | exact Upd.here _ | apply Upd.there)) (by exact (rfl : _ = (#[.int .i64 x.t, .int .i64 x.k, .bool x.had, .int .i64 x.o.a, .int .i64 x.o.b, .int .i64 x.o.c, .bool x.has, .int .i64 x.n.a, .int .i64 x.n.b, .int .i64 x.n.c] : Array Value))) (by first | rfl | (simp; done)) (by first | omega | decide | (simp; done)) (by exact free_zero _)) ?_
   rintro _ _ ⟨rfl, rfl⟩
   refine Z0 <| Zx <| Zq <| at_nil ?_
   refine Zg <| Za Y <| Za Y <| Z0 <| Zx <| Zb [7, 8, 4, 6, 20, 21, 22] ?_
   refine at_cutB (e0 := [(7, _), (8, _)]) (H0 := [[(cb, .cells #[.int .i64 x.t, .int .i64 x.k, .bool x.had, .int .i64 x.o.a, .int .i64 x.o.b, .int .i64 x.o.c, .bool x.has, .int .i64 x.n.a, .int .i64 x.n.b, .int .i64 x.n.c] 90 (0, 0))], []]) (fun e H => ∃ (v : Value) (sv : List Chunk), (Row 3 v ((vs1 x).map iV) sv) ∧ e = [(7, .int .i64 (fl1 x)), (8, v)] ∧ H = [[(cb, .cells #[.int .i64 x.t, .int .i64 x.k, .bool x.had, .int .i64 x.o.a, .int .i64 x.o.b, .int .i64 x.o.c, .bool x.has, .int .i64 x.n.a, .int .i64 x.n.b, .int .i64 x.n.c] 90 (0, 0))], sv]) (by repeat (first | exact Pull.nil _ | (apply Pull.cons; (focus (repeat (first | exact One.here _ _ | apply One.there)))))) ?hx_2 ?hy_2
   case hx_2 =>
    refine Zq <| Zg <| Zh 2 underlying90 rfl rfl sizeOf4 Y <| Zl isAgg4 Y ?_
    refine Z0 <| Zx ?_
    refine at_if_bool Y (fun hh1 => ?_) (fun hh1 => ?_)
    ·
     refine Zg <| Zm Y <| Zh 3 underlying90 rfl rfl sizeOf88 Y <| Zv (p_slice_arr_all underlying88 sizeOf3 Y) ?_
     refine Ze (w_append_sub (by_ := 8) underlying76 (rfl : Tryz.prog.info? 3 = some Tryz.t3) rfl rfl rfl rfl Y (row_nil 3) Y (subV_of (cur := #[.int .i64 x.t, .int .i64 x.k, .bool x.had, .int .i64 x.o.a, .int .i64 x.o.b, .int .i64 x.o.c, .bool x.has, .int .i64 x.n.a, .int .i64 x.n.b, .int .i64 x.n.c]) (ys := [iV x.o.a, iV x.o.b, iV x.o.c]) (o := 3) rfl (by decide) rfl) (by repeat (first | exact One.here _ _ | apply One.there)) (by repeat (first | exact One.here _ _ | apply One.there)) (by simp [iV, Value.oneCell']) (by simp; omega) (by simp)) ?_
     rintro _ _ ⟨sa, hra, rfl⟩
     obtain ⟨ga, ca, rfl⟩ := hra.form
     refine Za Y <| Za Y <| Z0 <| Zn [7, 8, 4, 6, 20, 21, 22] ?_
     refine nx_cutB (e' := [(7, _), (8, _)]) (H' := _) (by first | exact ⟨_, sa, by rw [vs1_t hh1]; exact hra, by rw [fl1_t hh1], rfl⟩ | exact ⟨.slice none 0 0, [], by rw [vs1_f hh1]; exact row_nil _, by rw [fl1_f hh1], rfl⟩)
    ·
     refine at_skip <| Zn [7, 8, 4, 6, 20, 21, 22] ?_
     refine nx_cutB (e' := [(7, _), (8, _)]) (H' := _) (by first | exact ⟨_, sa, by rw [vs1_t hh1]; exact hra, by rw [fl1_t hh1], rfl⟩ | exact ⟨.slice none 0 0, [], by rw [vs1_f hh1]; exact row_nil _, by rw [fl1_f hh1], rfl⟩)
   case hy_2 =>
    rintro _ _ ⟨v, sv, hv1, rfl, rfl⟩
    refine Zb [7, 8, 4, 6, 20, 21, 22] ?_
    refine at_cutB (e0 := [(7, _), (8, _)]) (H0 := [[(cb, .cells #[.int .i64 x.t, .int .i64 x.k, .bool x.had, .int .i64 x.o.a, .int .i64 x.o.b, .int .i64 x.o.c, .bool x.has, .int .i64 x.n.a, .int .i64 x.n.b, .int .i64 x.n.c] 90 (0, 0))], sv]) (fun e H => ∃ (v : Value) (sv : List Chunk), (Row 3 v ((vs2 x).map iV) sv) ∧ e = [(7, .int .i64 (fl2 x)), (8, v)] ∧ H = [[(cb, .cells #[.int .i64 x.t, .int .i64 x.k, .bool x.had, .int .i64 x.o.a, .int .i64 x.o.b, .int .i64 x.o.c, .bool x.has, .int .i64 x.n.a, .int .i64 x.n.b, .int .i64 x.n.c] 90 (0, 0))], sv]) (by repeat (first | exact Pull.nil _ | (apply Pull.cons; (focus (repeat (first | exact One.here _ _ | apply One.there)))))) ?hx_5 ?hy_5
    case hx_5 =>
     refine Zq <| Zg <| Zh 6 underlying90 rfl rfl sizeOf4 Y <| Zl isAgg4 Y ?_
     refine Z0 <| Zx ?_
     refine at_if_bool Y (fun hh2 => ?_) (fun hh2 => ?_)
     ·
      refine Zg <| Zm Y ?_
      first | (refine op_v (p_add_nat (n := 2) Y Y ?_) ?_; (focus (omega))) | (refine op_v (p_add Y Y (IntWalk.i64_in _ ?_)) ?_; (focus (omega)))
      refine Zm Y <| Zh 7 underlying90 rfl rfl sizeOf88 Y <| Zv (p_slice_arr_all underlying88 sizeOf3 Y) ?_
      refine Ze (w_append_sub (by_ := 8) underlying76 (rfl : Tryz.prog.info? 3 = some Tryz.t3) rfl rfl rfl rfl Y (hv1) Y (subV_of (cur := #[.int .i64 x.t, .int .i64 x.k, .bool x.had, .int .i64 x.o.a, .int .i64 x.o.b, .int .i64 x.o.c, .bool x.has, .int .i64 x.n.a, .int .i64 x.n.b, .int .i64 x.n.c]) (ys := [iV x.n.a, iV x.n.b, iV x.n.c]) (o := 7) rfl (by decide) rfl) (by repeat (first | exact One.here _ _ | apply One.there)) (by repeat (first | exact One.here _ _ | apply One.there)) (by simp [iV, Value.oneCell']) (by rw [List.length_map]; simp; omega) (by rw [List.length_map]; simp; omega)) ?_
      rintro _ _ ⟨sb, hrb, rfl⟩
      obtain ⟨gb, cb, rfl⟩ := hrb.form
      refine Za Y <| Za Y <| Z0 <| Zn [7, 8, 4, 6, 20, 21, 22] ?_
      refine nx_cutB (e' := [(7, _), (8, _)]) (H' := _) (by first | exact ⟨_, sb, by rw [vs2_t hh2, List.map_append]; exact hrb, by rw [fl2_t hh2], rfl⟩ | exact ⟨v, sv, by rw [vs2_f hh2]; exact hv1, by rw [fl2_f hh2], rfl⟩)
     ·
      refine at_skip <| Zn [7, 8, 4, 6, 20, 21, 22] ?_
      refine nx_cutB (e' := [(7, _), (8, _)]) (H' := _) (by first | exact ⟨_, sb, by rw [vs2_t hh2, List.map_append]; exact hrb, by rw [fl2_t hh2], rfl⟩ | exact ⟨v, sv, by rw [vs2_f hh2]; exact hv1, by rw [fl2_f hh2], rfl⟩)
    case hy_5 =>
     rintro _ _ ⟨v2, sv2, hv2, rfl, rfl⟩
     obtain ⟨gv, cv, curv, zv, rfl, rfl, hv2a, hv2b, hv2c, hv2t, hv2f⟩ := hv2.some (by rw [List.length_map]; exact hn3)
     rw [List.length_map] at hv2t ⊢
     refine Zg <| Zm Y <| Zh 0 underlying90 rfl rfl sizeOf3 Y <| Zl isAgg3 Y ?_
     refine Zh 1 underlying90 rfl rfl sizeOf3 Y <| Zl isAgg3 Y ?_
     refine Zm Y <| Ze (w_buildSlice (vs := [_, _, _]) (cs := [_, _, _]) underlying76 sizeOf3 zeroValue3 Y rfl rfl rfl rfl rfl) ?_
     rintro _ _ ⟨gp, rfl, rfl⟩
     refine Zr [_] Y call52 Y rfl (rw_put gp 0 3 _ _ _ [x.t, x.k, fl2 x] (ints_lit [x.t, x.k, fl2 x]) (by simp) hn1) ?_
     rintro _ _ ⟨rfl, rfl⟩
     refine Zm Y <| Zr [_] Y call52 Y rfl (rw_put gv 0 cv curv _ zv (vs2 x) (ints_row hv2t) (by omega) hn2) ?_
     rintro _ _ ⟨rfl, rfl⟩
     (refine op_v (p_add_str Y Y ?_) ?_; (focus (rw [str_size, str_size]; omega)))
     (refine op_v (p_add_str Y Y ?_) ?_; (focus (rw [str_app, str_size, str_size]; have h9 : (putAll [x.t, x.k, fl2 x] ++ putAll (vs2 x)).length = _ := List.length_append; omega)))
     refine Za Y <| Z0 <| Zn [4, 20, 21, 22] ?_
     refine nx_block_normal <| Zx <| Zg ?_
     first | (refine op_v (p_add_nat (n := 1) Y Y ?_) ?_; (focus (omega))) | (refine op_v (p_add Y Y (IntWalk.i64_in _ ?_)) ?_; (focus (omega)))
     refine Zm Y <| Z0 <| Zn [4, 22, 20, 21] ?_
     refine nx_againB (e' := [(4, _), (22, _)]) (m := _) (H' := _) (by exact ⟨i + 1, rfl, by omega, by rw [enc_next _ hx, ← str_app (putAll [p, (cs.length : Int)] ++ (cs.take i).flatMap encC), ← str_app (putAll [x.t, x.k, fl2 x]) (putAll (vs2 x))], rfl⟩)
  ·
   refine at_exit <| Zt <| Zt <| nx_block_exit <| Zx <| Zq <| Zg <| Zm Y <| Za Y <| Za Y <| Z0 <| Zx <| at_ret ?_
   refine nx_end2 rfl results12 Y Y (by exact ⟨by rw [List.take_of_length_le (by omega)]; rfl, rfl⟩)

theorem lt_next (h : HeadM) (p : Int) (q : Option Addr) (cap : Nat) (cs : List Chg) (st : List UInt8) (M : List Chunk) (hO : ChgsIn M (.slice q cs.length cap) cs) (hok : RecOk p cs) (hp : p = h.p + 1) (hc : h.ch.length = 32) (hs : h.st.length = 32) (hst : st.length = 32) (Tg : TypeId) (zg : Nat × Nat) : DoesR Tryz.prog 59 #[.agg #[.int .i64 h.p, .string (str h.ch), .string (str h.st)], .agg #[.int .i64 p, .slice q cs.length cap], .string (str st)] [M, [(4, .cells (kTab.map u32v).toArray Tg zg)]] (.tuple #[.agg #[.int .i64 p, .string (str (chainS h.ch (encRec p cs))), .string (str st)], .int .i64 0]) := by
 have hml : maxLen = 9223372036854775807 := rfl
 have hlen := hok.len
 have hpos := hok.pos
 have hel := encRec_len hok
 refine spec_enter func59 rfl ntmps59 rfl ?_
 intro u R
 refine Zb [0, 1, 2] ?_
 refine Zq <| Zg <| Ze (w_box Y (cs := #[_, _, _]) rfl) ?_
 rintro _ _ ⟨b1, rfl, rfl⟩
 refine Ze (w_box Y (cs := #[_, _]) rfl) ?_
 rintro _ _ ⟨b2, rfl, rfl⟩
 refine Ze (w_alloc zeroValue46 (cs := #[_, _, _]) rfl) ?_
 rintro _ _ ⟨b3, rfl, rfl⟩
 refine Za Y <| Z0 <| Zx <| Zq <| Zg <| Zo (by repeat (first | exact Has.here _ | apply Has.there)) (p_load_agg (cs := #[_, _]) isAgg41 sizeOf41 Y (by first | omega | decide | (simp; done)) (by rfl)) ?_
 refine Zr [_] Y call12 Y rfl (rw_encrec p q cap cs M hO hok) ?_
 rintro _ _ ⟨rfl, rfl⟩
 refine Zm Y <| Zd Y rfl <| Zd Y rfl <| Za Y <| Za Y <| Z0 <| Zx <| Zq <| Zq <| Zg <| Zm Y ?_
 first | refine op_v (p_neq_nat (n := 0) Y Y) ?_ | refine op_v (p_neq Y Y) ?_
 refine Zm Y ?_
 first | refine ops_split (t := 17) Y rfl (fun h1 => ?_) (fun h1 => ?_) | refine ops_split_bool (t := 17) Y rfl (fun h1 => ?_) (fun h1 => ?_)
 ·
  exfalso; first | exact h1 rfl | (cases h1; done) | contradiction | omega | (simp_all; done)
 ·
  refine op_rg Y (by repeat (first | exact Has.here _ | apply Has.there)) (p_load_agg (cs := #[_, _, _]) isAgg46 sizeOf46 Y (by first | omega | decide | (simp; done)) (by rfl)) rfl rfl ?_
  refine Zr [_] Y call112 Y rfl (lt_valid h.p h.ch h.st) ?_
  rintro _ _ ⟨rfl, rfl⟩
  rw [decide_eq_true (⟨⟨by omega, by omega⟩, hc, hs⟩ : (0 ≤ h.p ∧ h.p ≤ 10000) ∧ h.ch.length = 32 ∧ h.st.length = 32)]
  first | refine op_wg Y (p_not_dec Y) rfl rfl ?_ | refine op_wg Y (p_not Y) rfl rfl ?_
  refine Zv (p_pick_f Y Y) <| Zm Y ?_
  refine ops_split_bool (t := 22) Y rfl (fun h2 => ?_) (fun h2 => ?_)
  ·
   cases h2
  ·
   refine Zf Y Y <| Zr [_] Y call49 Y rfl (lt_isd st) ?_
   rintro _ _ ⟨rfl, rfl⟩
   rw [decide_eq_true hst]
   first | refine op_wg Y (p_not_dec Y) rfl rfl ?_ | refine op_wg Y (p_not Y) rfl rfl ?_
   refine Zv (p_pick_f Y Y) <| Zm Y ?_
   refine ops_split_bool (t := 27) Y rfl (fun h3 => ?_) (fun h3 => ?_)
   ·
    cases h3
   ·
    refine op_wg Y (p_fieldAddr0 (off := 0) underlying41 rfl rfl sizeOf3 Y) rfl rfl ?_
    refine op_rg Y (by repeat (first | exact Has.here _ | apply Has.there)) (p_load isAgg3 Y (by rfl)) rfl rfl ?_
    refine op_wg Y (p_fieldAddr0 (off := 0) underlying46 rfl rfl sizeOf3 Y) rfl rfl ?_
    refine op_rg Y (by repeat (first | exact Has.here _ | apply Has.there)) (p_load isAgg3 Y (by rfl)) rfl rfl ?_
    first | (refine op_wg Y (p_add_nat (n := 1) Y Y ?_) rfl rfl ?_; (focus (omega))) | (refine op_wg Y (p_add Y Y (IntWalk.i64_in _ ?_)) rfl rfl ?_; (focus (omega)))
    first | refine op_wg Y (p_neq_nat Y Y) rfl rfl ?_ | refine op_wg Y (p_neq Y Y) rfl rfl ?_
    refine Zv (p_pick_f Y Y) <| Z0 <| Zn [2, 3, 4, 6, 8, 34] ?_
    refine Zx ?_
    first | refine at_if Y (fun h4 => ?_) (fun h4 => ?_) | refine at_if_bool Y (fun h4 => ?_) (fun h4 => ?_)
    ·
     exfalso; first | exact h4 rfl | (cases h4; done) | contradiction | omega | (simp_all; done)
    ·
     refine at_skip <| Zx <| Zq <| at_draw (n := 10) (0 :: 1 :: 0 :: 4 :: 0 :: 28 :: 0 :: 127 :: 255 :: 511 :: []) 288 (by kernel_rfl) (by kernel_rfl) rfl ?_
     refine Zi 1 0 rfl (p_fieldAddr0 (off := 0) underlying41 rfl rfl sizeOf3 Y) <| Zj 3 1 rfl isAgg3 Y ?_
     refine Zi 7 2 rfl (p_fieldAddr0 (off := 1) underlying46 rfl rfl sizeOf9 Y) <| Zj 15 3 rfl isAgg9 Y ?_
     refine Zi 31 4 rfl (p_move Y) <| Zi 95 6 rfl (p_move Y) <| Zz (l := [5]) ?_
     refine Zy 28 127 [3, 1] [false, true] [(1, (_, _))] rfl Y rfl rfl rfl rfl (Zu [_, _] Y call110 Y rfl (chain_spec h.ch (encRec p cs) (by omega) Tg zg)) ?hk_1 (fun _ _ h => h.elim) ?hl_1
     case hk_1 =>
      rintro _ _ ⟨rfl, rfl⟩
      refine ⟨Zk (keep_nil), ?_⟩
      refine Zi 255 7 rfl (p_build (vs := [(0, _), (1, _), (2, _)]) (cs := #[_, _, _]) Y (run_build_struct (pl := #[(0, 1), (1, 1), (2, 1)]) zeroValue46 underlying46 (fun _ => by kernel_rfl) rfl)) ?_
      refine Zz (l := [8]) ?_
      refine Zy 255 511 [1] [false] [] rfl Y rfl rfl rfl rfl (w_store_agg sizeOf46 Y Y (by first | (simp [Value.oneCell']; done) | (simp [Value.oneCell', Value.cells]; done)) (by repeat (first | exact Upd.here _ | apply Upd.there)) (by rfl) (by first | rfl | (simp; done)) (by first | omega | decide | (simp; done)) (by exact free_zero _)) ?hk_2 (fun _ _ h => h.elim) ?hl_2
      case hk_2 =>
       rintro _ _ ⟨rfl, rfl⟩
       refine ⟨keep_nil, ?_⟩
       refine Zi 1023 9 rfl (p_assign Y) <| lin_nil ?_
       refine Zx <| at_ret ?_
       refine nx_endct rfl results59 Y (by repeat (first | exact Has.here _ | apply Has.there)) (loadVar_agg isAgg46 sizeOf46 (by first | decide | exact Nat.le_refl _ | (simp; done) | (simp; omega)) (rfl)) Y (by exact ⟨rfl, rfl⟩)
      case hl_2 =>
       exact each_nil
     case hl_1 =>
      exact each_nil

theorem lt_new (st : List UInt8) (hst : st.length = 32) : Does Tryz.prog 11 #[.string (str st)] [] (fun r H' => ∃ xp gh, r = .tuple #[.pointer (some ⟨xp, 0, none⟩), .int .i64 0] ∧ H' = [[(xp, .cells #[.slice none 0 0, .slice (some ⟨gh, 0, none⟩) 1 1] 117 (0, 0))], [(gh, .cells #[.int .i64 0, .string (str zero32), .string (str st)] 46 (0, 0))]]) := by
 refine spec_enter func11 rfl ntmps11 rfl ?_
 intro u R
 refine Zb [0] ?_
 refine Zq <| Zg <| Za Y <| Za Y <| Z0 <| Zx <| Zq <| Zq <| Zg <| Zm Y <| Zr [_] Y call49 Y rfl (lt_isd st) ?_
 rintro _ _ ⟨rfl, rfl⟩
 rw [decide_eq_true hst]
 first | refine op_v (p_not_dec Y) ?_ | refine op_v (p_not Y) ?_
 refine Z0 <| Zx ?_
 refine at_if_bool Y (fun h2 => ?_) (fun h2 => ?_)
 ·
  cases h2
 ·
  refine at_skip <| Zx <| Zq <| Zg <| Zr [_, _] Y call50 Y rfl (repeat_spec) ?_
  rintro _ _ ⟨rfl, rfl⟩
  refine Zm Y <| Zv (p_build (vs := [(1, _), (2, _)]) (cs := #[_, _, _]) Y (run_build_struct (pl := #[(0, 1), (1, 1), (2, 1)]) zeroValue46 underlying46 (fun _ => by kernel_rfl) rfl)) ?_
  refine Ze (w_buildSlice (vs := [_]) (cs := [_, _, _]) underlying115 sizeOf46 zeroValue46 Y rfl rfl rfl rfl rfl) ?_
  rintro _ _ ⟨gh, rfl, rfl⟩
  refine Zv (p_build (vs := [(1, _)]) (cs := #[_, _]) Y (run_build_struct (pl := #[(0, 1), (1, 1)]) zeroValue117 underlying117 (fun _ => by kernel_rfl) rfl)) ?_
  refine Ze (w_box Y (cs := #[_, _]) rfl) ?_
  rintro _ _ ⟨xp, rfl, rfl⟩
  refine Za Y <| Za Y <| Z0 <| Zn [2, 3] ?_
  refine Zx <| at_ret ?_
  refine nx_end2 rfl results11 Y Y (by exact ⟨xp, gh, rfl, rfl⟩)

theorem lt_own (p : Int) (q : Option Addr) (cap : Nat) (cs : List Chg) (M : List Chunk) (hO : ChgsIn M (.slice q cs.length cap) cs) (h0 : 0 < cs.length) (hn : cs.length ≤ 1000000) : Does Tryz.prog 60 #[.agg #[.int .i64 p, .slice q cs.length cap]] [M] (fun r H' => ∃ q' cap' sq, r = .agg #[.int .i64 p, .slice q' cs.length cap'] ∧ RowS 10 90 (.slice q' cs.length cap') cs.length (chgCells cs) sq ∧ H' = [sq, M]) := by
 refine spec_enter func60 rfl ntmps60 rfl ?_
 intro u R
 refine Zb [0] ?_
 refine Zq <| Zg <| Ze (w_box Y (cs := #[_, _]) rfl) ?_
 rintro _ _ ⟨b1, rfl, rfl⟩
 refine Ze (w_alloc zeroValue41 (cs := #[_, _]) rfl) ?_
 rintro _ _ ⟨b2, rfl, rfl⟩
 refine Z0 <| Zx <| Zq <| Zg <| Zh 1 underlying41 rfl rfl sizeOf39 Y <| Zl isAgg39 Y ?_
 refine Zc [_] Y call113 Y rfl (clone_chg hO h0 hn) ?_
 rintro _ _ ⟨_, ⟨sq, hrq, rfl⟩, rfl⟩
 obtain ⟨q', cap', rfl⟩ := hrq.form
 refine Zh 1 underlying41 rfl rfl sizeOf39 Y <| Ze (Zs sizeOf39 Y Y rfl (hi := by first | omega | decide | (simp; done))) ?_
 rintro _ _ ⟨rfl, rfl⟩
 refine Z0 <| Zx <| Zq <| Zg <| Zo (by repeat (first | exact Has.here _ | apply Has.there)) (p_load_agg (cs := #[_, _]) isAgg41 sizeOf41 Y (by first | omega | decide | (simp; done)) (by rfl)) ?_
 refine Ze (w_store_agg sizeOf41 Y Y (by first | (simp [Value.oneCell']; done) | (simp [Value.oneCell', Value.cells]; done)) (by repeat (first | exact Upd.here _ | apply Upd.there)) (by rfl) (by first | rfl | (simp; done)) (by first | omega | decide | (simp; done)) (by exact free_zero _)) ?_
 rintro _ _ ⟨rfl, rfl⟩
 refine Z0 <| Zx <| at_ret ?_
 refine nx_endc1 rfl results60 Y (by repeat (first | exact Has.here _ | apply Has.there)) (loadVar_agg isAgg41 sizeOf41 (by first | decide | exact Nat.le_refl _ | (simp; done) | (simp; omega)) (rfl)) (by exact ⟨q', cap', sq, rfl, hrq, rfl⟩)

theorem headCells_app (a b : List HeadM) : headCells (a ++ b) = headCells a ++ headCells b := by unfold headCells; rw [List.flatMap_append]
theorem head_at {cur : Array Value} {hs : List HeadM} {x : HeadM} (hsz : hs.length * 3 + 3 ≤ cur.size) (h : (cur.extract (hs.length * 3) (hs.length * 3 + 3)).toList = ((headCells (hs ++ [x])).drop (hs.length * 3)).take 3) : cur.extract (hs.length * 3) (hs.length * 3 + 3) = #[.int .i64 x.p, .string (str x.ch), .string (str x.st)] := by
  apply Array.toList_inj.1
  rw [h]
  exact flat_at (fun h : HeadM => [.int .i64 h.p, .string (str h.ch), .string (str h.st)]) 3 (fun _=>rfl) (hs ++ [x]) hs.length x (by rw [List.getElem?_append_right (Nat.le_refl _), Nat.sub_self]; rfl)

set_option maxHeartbeats 2000000 in
theorem lt_append (xp : Nat) (hs : List HeadM) (x : HeadM) (rs : List RecM) (vr vh : Value) (sr sh : List Chunk) (p : Int) (q : Option Addr) (cap : Nat) (cs : List Chg) (st : List UInt8) (M : List Chunk) (hO : ChgsIn M (.slice q cs.length cap) cs) (hok : RecOk p cs) (hp : p = x.p + 1) (hc : x.ch.length = 32) (hs2 : x.st.length = 32) (hst : st.length = 32)
    (hrh : RowS 3 46 vh (hs.length + 1) (headCells (hs ++ [x])) sh) (hrr : RowS 2 41 vr rs.length (recCells rs) sr) (hn1 : hs.length ≤ 1000000) (hn2 : rs.length ≤ 1000000) (Tg : TypeId) (zg : Nat × Nat) :
    Does Tryz.prog 14 #[.pointer (some ⟨xp, 0, none⟩), .agg #[.int .i64 p, .slice q cs.length cap], .string (str st)] [[(xp, .cells #[vr, vh] 117 (0, 0))], sr, sh, M, [(4, .cells (kTab.map u32v).toArray Tg zg)]] (fun r H' => r = .int .i64 0 ∧ ∃ vr' vh' sr' sh' q' cap' sq, RowS 10 90 (.slice q' cs.length cap') cs.length (chgCells cs) sq ∧ RowS 2 41 vr' (rs.length + 1) (recCells (rs ++ [⟨p, q', cap', cs⟩])) sr' ∧
      RowS 3 46 vh' (hs.length + 2) (headCells (hs ++ [x, ⟨p, chainS x.ch (encRec p cs), st⟩])) sh' ∧ H' = [[(xp, .cells #[vr', vh'] 117 (0, 0))], sr', sh', sq, M, [(4, .cells (kTab.map u32v).toArray Tg zg)]]) := by
 have hml : maxLen = 9223372036854775807 := rfl
 have hlen := hok.len
 have hpos := hok.pos
 have hel := encRec_len hok
 obtain ⟨qr, capr, rfl⟩ := hrr.form
 obtain ⟨gh, caph, curh, zh, rfl, rfl, hszh, hexh⟩ := rowS_ext hrh hs.length (by omega)
 have hx9 := head_at hszh hexh
 refine spec_enter func14 rfl ntmps14 rfl ?_
 intro u R
 refine Zb [0, 1, 2] ?_
 refine Zq <| Zg <| Ze (w_box Y (cs := #[_, _]) rfl) ?_
 rintro _ _ ⟨b1, rfl, rfl⟩
 refine Za Y <| Z0 <| Zx <| Zq <| Zq <| Zg <| Zm Y ?_
 first | refine op_v (p_eql_nil_nil underlying33 Y Y) ?_ | refine op_v (p_eql_ptr_nil underlying33 Y Y) ?_
 refine Z0 <| Zx ?_
 refine at_if_bool Y (fun h1 => ?_) (fun h1 => ?_)
 ·
  cases h1
 ·
  refine at_skip <| Zx <| Zb [2, 0, 4] ?_
  refine at_cutB (e0 := [(2, _)]) (H0 := []) (fun e H => ∃ (hb : Nat), (True) ∧ e = [(7, .pointer (some ⟨hb, 0, none⟩)), (8, .int .i64 0)] ∧ H = [[(hb, .cells #[.int .i64 p, .string (str (chainS x.ch (encRec p cs))), .string (str st)] 46 (0, 0))]]) (by repeat (first | exact Pull.nil _ | (apply Pull.cons; (focus (repeat (first | exact One.here _ _ | apply One.there)))))) ?hx_1 ?hy_1
  case hx_1 =>
   refine at_draw (n := 21) (0 :: 1 :: 3 :: 7 :: 0 :: 16 :: 48 :: 112 :: 240 :: 496 :: 1023 :: 2047 :: 0 :: 0 :: 16383 :: 32767 :: 65535 :: 65535 :: 0 :: 393215 :: 1048575 :: []) 802816 (by kernel_rfl) (by kernel_rfl) rfl ?_
   refine Zi 1 0 rfl (p_move Y) <| Zi 3 1 rfl (p_nilChk Y rfl) <| Zi 7 2 rfl (p_fieldAddr0 (off := 1) underlying117 rfl rfl sizeOf115 Y) <| Zj 15 3 rfl isAgg115 Y ?_
   refine Zi 31 4 rfl (p_move Y) <| Zi 63 5 rfl (p_nilChk Y rfl) <| Zi 127 6 rfl (p_fieldAddr0 (off := 1) underlying117 rfl rfl sizeOf115 Y) <| Zj 255 7 rfl isAgg115 Y ?_
   refine Zi 511 8 rfl (p_len_slice underlying115 Y) ?_
   first | (refine lin_v (D' := 1023) 9 (p_sub_nat (n := 1) Y Y ?_ ?_) ?_; (focus (omega)); (focus (omega))) | (refine lin_v (D' := 1023) 9 (p_sub Y Y (IntWalk.i64_in _ ?_)) ?_; (focus (omega)))
   (refine lin_v (D' := 2047) 10 (p_indexAddr_nat underlying115 sizeOf46 Y Y ?_) ?_; (focus (first | omega | decide | (simp; done))))
   refine lin_r (D' := 4095) 11 rfl rfl rfl (by repeat (first | exact Has.here _ | apply Has.there)) (p_load_agg (cs := #[_, _, _]) isAgg46 sizeOf46 Y (by first | omega | decide | (simp; done)) (by simpa using hx9)) ?_
   refine lin_r (D' := 8191) 12 rfl rfl rfl (by repeat (first | exact Has.here _ | apply Has.there)) (p_load_agg (cs := #[_, _]) isAgg41 sizeOf41 Y (by first | omega | decide | (simp; done)) (by rfl)) ?_
   refine Zi 16383 13 rfl (p_move Y) <| Zz (l := [14, 18]) ?_
   refine Zy 16383 32767 [12, 11, 7, 3] [false, false, false, false] [] rfl Y rfl rfl rfl rfl (Zu [_, _, _] Y call59 Y rfl (lt_next x p q cap cs st M hO hok hp hc hs2 hst Tg zg)) ?hk_2 (fun _ _ h => h.elim) ?hl_2
   case hk_2 =>
    rintro _ _ ⟨rfl, rfl⟩
    refine ⟨keep_nil, ?_⟩
    refine Zi 65535 15 rfl (p_move Y) <| Zi 131071 16 rfl (p_extract Y rfl) <| Zi 262143 17 rfl (p_extract Y rfl) <| Zz (l := [18]) ?_
    refine Zy 0 524287 [] [] [] rfl Y rfl rfl rfl rfl (w_alloc zeroValue46 (cs := #[_, _, _]) rfl) ?hk_3 (fun _ _ h => h.elim) ?hl_3
    case hk_3 =>
     rintro _ _ ⟨b2, rfl, rfl⟩
     refine ⟨keep_nil, ?_⟩
     refine Zz (l := [19]) ?_
     refine Zy 393215 1048575 [] [] [] rfl Y rfl rfl rfl rfl (w_store_agg sizeOf46 Y Y (by first | (simp [Value.oneCell']; done) | (simp [Value.oneCell', Value.cells]; done)) (by repeat (first | exact Upd.here _ | apply Upd.there)) (by exact (rfl : _ = (#[.int .i64 p, .string (str (chainS x.ch (encRec p cs))), .string (str st)] : Array Value))) (by first | rfl | (simp; done)) (by first | omega | decide | (simp; done)) (by exact free_zero _)) ?hk_4 (fun _ _ h => h.elim) ?hl_4
     case hk_4 =>
      rintro _ _ ⟨rfl, rfl⟩
      refine ⟨keep_nil, ?_⟩
      refine Zi 2097151 20 rfl (p_assign Y) <| lin_nil ?_
      refine Zn [7, 8, 0, 4] ?_
      refine nx_cutB (e' := [(7, _), (8, _)]) (H' := _) (by exact ⟨_, trivial, rfl, rfl⟩)
     case hl_4 =>
      exact each_nil
    case hl_3 =>
     exact each_nil
   case hl_2 =>
    refine Zy 0 278527 [12, 11, 7, 3] [true, true, true, true] [(12, (_, _)), (11, (_, _)), (7, (_, _)), (3, (_, _))] rfl Y rfl rfl rfl rfl (w_alloc zeroValue46 (cs := #[_, _, _]) rfl) ?hk_6 (fun _ _ h => h.elim) ?hl_6
    case hk_6 =>
     rintro _ _ ⟨b3, rfl, rfl⟩
     refine ⟨Zk (Zk (Zk (Zk (keep_nil)))), ?_⟩
     refine Zz (l := [14]) ?_
     refine Zy 16383 294911 [12, 11, 7, 3] [false, false, false, false] [] rfl Y rfl rfl rfl rfl (Zu [_, _, _] Y call59 Y rfl (lt_next x p q cap cs st M hO hok hp hc hs2 hst Tg zg)) ?hk_7 (fun _ _ h => h.elim) ?hl_7
     case hk_7 =>
      rintro _ _ ⟨rfl, rfl⟩
      refine ⟨keep_nil, ?_⟩
      refine Zi 327679 15 rfl (p_move Y) <| Zi 393215 16 rfl (p_extract Y rfl) <| Zi 524287 17 rfl (p_extract Y rfl) <| Zz (l := [19]) ?_
      refine Zy 393215 1048575 [] [] [] rfl Y rfl rfl rfl rfl (w_store_agg sizeOf46 Y Y (by first | (simp [Value.oneCell']; done) | (simp [Value.oneCell', Value.cells]; done)) (by repeat (first | exact Upd.here _ | apply Upd.there)) (by exact (rfl : _ = (#[.int .i64 p, .string (str (chainS x.ch (encRec p cs))), .string (str st)] : Array Value))) (by first | rfl | (simp; done)) (by first | omega | decide | (simp; done)) (by exact free_zero _)) ?hk_8 (fun _ _ h => h.elim) ?hl_8
      case hk_8 =>
       rintro _ _ ⟨rfl, rfl⟩
       refine ⟨keep_nil, ?_⟩
       refine Zi 2097151 20 rfl (p_assign Y) <| lin_nil ?_
       refine Zn [7, 8, 0, 4] ?_
       refine nx_cutB (e' := [(7, _), (8, _)]) (H' := _) (by exact ⟨_, trivial, rfl, rfl⟩)
      case hl_8 =>
       exact each_nil
     case hl_7 =>
      exact each_nil
    case hl_6 =>
     exact each_nil
  case hy_1 =>
   rintro _ _ ⟨hb, _, rfl, rfl⟩
   refine Zq <| Zq <| Zg <| Zm Y ?_
   first | refine op_v (p_neq_nat (n := 0) Y Y) ?_ | refine op_v (p_neq Y Y) ?_
   refine Z0 <| Zx ?_
   first | refine at_if Y (fun h2 => ?_) (fun h2 => ?_) | refine at_if_bool Y (fun h2 => ?_) (fun h2 => ?_)
   ·
    exfalso; first | exact h2 rfl | (cases h2; done) | contradiction | omega | (simp_all; done)
   ·
    refine at_skip <| Zx <| Zq <| at_draw (n := 23) (0 :: 0 :: 0 :: 4 :: 12 :: 28 :: 0 :: 64 :: 192 :: 508 :: 0 :: 1024 :: 3072 :: 7168 :: 0 :: 16384 :: 65532 :: 131069 :: 262141 :: 524285 :: 1048575 :: 2097151 :: 4194303 :: []) 4817792 (by kernel_rfl) (by kernel_rfl) rfl ?_
    refine Zi 1 0 rfl (p_move Y) <| Zi 3 1 rfl (p_move Y) <| Zi 7 2 rfl (p_move Y) <| Zi 15 3 rfl (p_nilChk Y rfl) <| Zi 31 4 rfl (p_fieldAddr0 (off := 0) underlying117 rfl rfl sizeOf24 Y) <| Zj 63 5 rfl isAgg24 Y ?_
    refine lin_r (D' := 127) 6 rfl rfl rfl (by repeat (first | exact Has.here _ | apply Has.there)) (p_load_agg (cs := #[_, _]) isAgg41 sizeOf41 Y (by first | omega | decide | (simp; done)) (by rfl)) ?_
    refine Zi 1151 10 rfl (p_move Y) <| Zi 3199 11 rfl (p_nilChk Y rfl) <| Zi 7295 12 rfl (p_fieldAddr0 (off := 1) underlying117 rfl rfl sizeOf115 Y) <| Zj 15487 13 rfl isAgg115 Y ?_
    refine lin_r (D' := 31871) 14 rfl rfl rfl (by repeat (first | exact Has.here _ | apply Has.there)) (p_load_agg (cs := #[_, _, _]) isAgg46 sizeOf46 Y (by first | omega | decide | (simp; done)) (by rfl)) ?_
    refine Zz (l := [7, 15]) ?_
    refine Zy 64 31999 [14, 13, 6, 5] [true, true, false, true] [(14, (_, _)), (13, (_, _)), (5, (_, _))] rfl Y rfl rfl rfl rfl (Zw [_] Y call60 Y rfl (lt_own p q cap cs M hO (by omega) (by omega))) ?hk_10 no_pan ?hl_10
    case hk_10 =>
     rintro _ _ ⟨_, ⟨q', cap', sq, rfl, hrq, rfl⟩, rfl⟩
     refine ⟨Zk (Zk (Zk (keep_nil))), ?_⟩
     refine Zz (l := [8, 15]) ?_
     refine Zy 192 32255 [14, 13, 5] [true, true, true] [(14, (_, _)), (13, (_, _)), (5, (_, _))] rfl Y rfl rfl rfl rfl (w_buildSlice (vs := [_]) (cs := [_, _]) underlying24 sizeOf41 zeroValue41 Y rfl rfl rfl rfl rfl) ?hk_11 (fun _ _ h => h.elim) ?hl_11
     case hk_11 =>
      rintro _ _ ⟨g40, rfl, rfl⟩
      refine ⟨Zk (Zk (Zk (keep_nil))), ?_⟩
      refine Zz (l := [9, 15]) ?_
      refine Zy 508 32767 [14, 13, 5] [true, true, false] [(14, (_, _)), (13, (_, _))] rfl Y rfl rfl rfl rfl (w_append_subS (by_ := 32) (sz := 2) underlying24 (rfl : Tryz.prog.info? 41 = some Tryz.t41) rfl rfl rfl rfl Y (hrr) Y (subS_new 2 g40 1 1 41 (0, 0) [.int .i64 p, .slice q' cs.length cap'] rfl) (by repeat (first | exact One.here _ _ | apply One.there)) (by repeat (first | exact One.here _ _ | apply One.there)) (by simp [Value.oneCell']) (by omega) (by omega)) ?hk_12 (fun _ _ h => h.elim) ?hl_12
      case hk_12 =>
       rintro _ _ ⟨sR, hrR, rfl⟩
       refine ⟨Zk (Zk (keep_nil)), ?_⟩
       obtain ⟨gR, cR, rfl⟩ := hrR.form
       refine Zz (l := [15]) ?_
       refine Zy 16384 65535 [14, 13] [false, true] [(13, (_, _))] rfl Y rfl rfl rfl rfl (w_buildSlice (vs := [_]) (cs := [_, _, _]) underlying115 sizeOf46 zeroValue46 Y rfl rfl rfl rfl rfl) ?hk_13 (fun _ _ h => h.elim) ?hl_13
       case hk_13 =>
        rintro _ _ ⟨g47, rfl, rfl⟩
        refine ⟨Zk (keep_nil), ?_⟩
        refine Zz (l := [16]) ?_
        refine Zy 65532 131071 [13] [false] [] rfl Y rfl rfl rfl rfl (w_append_subS (by_ := 40) (sz := 3) underlying115 (rfl : Tryz.prog.info? 46 = some Tryz.t46) rfl rfl rfl rfl Y (hrh) Y (subS_new 3 g47 1 1 46 (0, 0) [.int .i64 p, .string (str (chainS x.ch (encRec p cs))), .string (str st)] rfl) (by repeat (first | exact One.here _ _ | apply One.there)) (by repeat (first | exact One.here _ _ | apply One.there)) (by simp [Value.oneCell']) (by omega) (by omega)) ?hk_14 (fun _ _ h => h.elim) ?hl_14
        case hk_14 =>
         rintro _ _ ⟨sQ, hrQ, rfl⟩
         refine ⟨keep_nil, ?_⟩
         obtain ⟨gQ, cQ, rfl⟩ := hrQ.form
         refine Zi 262143 17 rfl (p_nilChk Y rfl) <| Zi 524287 18 rfl (p_fieldAddr0 (off := 0) underlying117 rfl rfl sizeOf24 Y) <| Zz (l := [19]) ?_
         refine Zy 524285 1048575 [] [] [] rfl Y rfl rfl rfl rfl (Zs sizeOf24 Y Y rfl (hi := by first | omega | decide | (simp; done))) ?hk_15 (fun _ _ h => h.elim) ?hl_15
         case hk_15 =>
          rintro _ _ ⟨rfl, rfl⟩
          refine ⟨keep_nil, ?_⟩
          refine Zi 2097151 20 rfl (p_nilChk Y rfl) <| Zi 4194303 21 rfl (p_fieldAddr0 (off := 1) underlying117 rfl rfl sizeOf115 Y) <| Zz (l := [22]) ?_
          refine Zy 4194303 8388607 [] [] [] rfl Y rfl rfl rfl rfl (Zs sizeOf115 Y Y rfl (hi := by first | omega | decide | (simp; done))) ?hk_16 (fun _ _ h => h.elim) ?hl_16
          case hk_16 =>
           rintro _ _ ⟨rfl, rfl⟩
           refine ⟨keep_nil, ?_⟩
           refine lin_nil ?_
           refine Zn [] ?_
           refine Zx <| Zq <| Zg <| Za Y <| Z0 <| Zx <| at_ret ?_
           refine nx_end1 rfl results14 Y (by exact ⟨rfl, _, _, sR, sQ, q', cap', sq, hrq, rowS_eq hrR rfl (by rw [recCells_app]; rfl), rowS_eq hrQ rfl (by rw [show hs ++ [x, (⟨p, chainS x.ch (encRec p cs), st⟩ : HeadM)] = hs ++ [x] ++ [⟨p, chainS x.ch (encRec p cs), st⟩] by simp, headCells_app (hs ++ [x])]; rfl), rfl⟩)
          case hl_16 =>
           exact each_nil
         case hl_15 =>
          exact each_nil
        case hl_14 =>
         exact each_nil
       case hl_13 =>
        exact each_nil
      case hl_12 =>
       refine Zy 16384 65023 [14, 13, 5] [false, true, true] [(13, (_, _)), (5, (_, _))] rfl Y rfl rfl rfl rfl (w_buildSlice (vs := [_]) (cs := [_, _, _]) underlying115 sizeOf46 zeroValue46 Y rfl rfl rfl rfl rfl) ?hk_18 (fun _ _ h => h.elim) ?hl_18
       case hk_18 =>
        rintro _ _ ⟨g47, rfl, rfl⟩
        refine ⟨Zk (Zk (keep_nil)), ?_⟩
        refine Zz (l := [9]) ?_
        refine Zy 508 65535 [13, 5] [true, false] [(13, (_, _))] rfl Y rfl rfl rfl rfl (w_append_subS (by_ := 32) (sz := 2) underlying24 (rfl : Tryz.prog.info? 41 = some Tryz.t41) rfl rfl rfl rfl Y (hrr) Y (subS_new 2 g40 1 1 41 (0, 0) [.int .i64 p, .slice q' cs.length cap'] rfl) (by repeat (first | exact One.here _ _ | apply One.there)) (by repeat (first | exact One.here _ _ | apply One.there)) (by simp [Value.oneCell']) (by omega) (by omega)) ?hk_19 (fun _ _ h => h.elim) ?hl_19
        case hk_19 =>
         rintro _ _ ⟨sR, hrR, rfl⟩
         refine ⟨Zk (keep_nil), ?_⟩
         obtain ⟨gR, cR, rfl⟩ := hrR.form
         refine Zz (l := [16]) ?_
         refine Zy 65532 131071 [13] [false] [] rfl Y rfl rfl rfl rfl (w_append_subS (by_ := 40) (sz := 3) underlying115 (rfl : Tryz.prog.info? 46 = some Tryz.t46) rfl rfl rfl rfl Y (hrh) Y (subS_new 3 g47 1 1 46 (0, 0) [.int .i64 p, .string (str (chainS x.ch (encRec p cs))), .string (str st)] rfl) (by repeat (first | exact One.here _ _ | apply One.there)) (by repeat (first | exact One.here _ _ | apply One.there)) (by simp [Value.oneCell']) (by omega) (by omega)) ?hk_20 (fun _ _ h => h.elim) ?hl_20
         case hk_20 =>
          rintro _ _ ⟨sQ, hrQ, rfl⟩
          refine ⟨keep_nil, ?_⟩
          obtain ⟨gQ, cQ, rfl⟩ := hrQ.form
          refine Zi 262143 17 rfl (p_nilChk Y rfl) <| Zi 524287 18 rfl (p_fieldAddr0 (off := 0) underlying117 rfl rfl sizeOf24 Y) <| Zz (l := [19]) ?_
          refine Zy 524285 1048575 [] [] [] rfl Y rfl rfl rfl rfl (Zs sizeOf24 Y Y rfl (hi := by first | omega | decide | (simp; done))) ?hk_21 (fun _ _ h => h.elim) ?hl_21
          case hk_21 =>
           rintro _ _ ⟨rfl, rfl⟩
           refine ⟨keep_nil, ?_⟩
           refine Zi 2097151 20 rfl (p_nilChk Y rfl) <| Zi 4194303 21 rfl (p_fieldAddr0 (off := 1) underlying117 rfl rfl sizeOf115 Y) <| Zz (l := [22]) ?_
           refine Zy 4194303 8388607 [] [] [] rfl Y rfl rfl rfl rfl (Zs sizeOf115 Y Y rfl (hi := by first | omega | decide | (simp; done))) ?hk_22 (fun _ _ h => h.elim) ?hl_22
           case hk_22 =>
            rintro _ _ ⟨rfl, rfl⟩
            refine ⟨keep_nil, ?_⟩
            refine lin_nil ?_
            refine Zn [] ?_
            refine Zx <| Zq <| Zg <| Za Y <| Z0 <| Zx <| at_ret ?_
            refine nx_end1 rfl results14 Y (by exact ⟨rfl, _, _, sR, sQ, q', cap', sq, hrq, rowS_eq hrR rfl (by rw [recCells_app]; rfl), rowS_eq hrQ rfl (by rw [show hs ++ [x, (⟨p, chainS x.ch (encRec p cs), st⟩ : HeadM)] = hs ++ [x] ++ [⟨p, chainS x.ch (encRec p cs), st⟩] by simp, headCells_app (hs ++ [x])]; rfl), rfl⟩)
           case hl_22 =>
            exact each_nil
          case hl_21 =>
           exact each_nil
         case hl_20 =>
          exact each_nil
        case hl_19 =>
         exact each_nil
       case hl_18 =>
        exact each_nil
     case hl_11 =>
      refine Zy 16384 64767 [14, 13, 5] [false, true, true] [(13, (_, _)), (5, (_, _))] rfl Y rfl rfl rfl rfl (w_buildSlice (vs := [_]) (cs := [_, _, _]) underlying115 sizeOf46 zeroValue46 Y rfl rfl rfl rfl rfl) ?hk_24 (fun _ _ h => h.elim) ?hl_24
      case hk_24 =>
       rintro _ _ ⟨g47, rfl, rfl⟩
       refine ⟨Zk (Zk (keep_nil)), ?_⟩
       refine Zz (l := [8]) ?_
       refine Zy 192 65023 [13, 5] [true, true] [(13, (_, _)), (5, (_, _))] rfl Y rfl rfl rfl rfl (w_buildSlice (vs := [_]) (cs := [_, _]) underlying24 sizeOf41 zeroValue41 Y rfl rfl rfl rfl rfl) ?hk_25 (fun _ _ h => h.elim) ?hl_25
       case hk_25 =>
        rintro _ _ ⟨g40, rfl, rfl⟩
        refine ⟨Zk (Zk (keep_nil)), ?_⟩
        refine Zz (l := [9]) ?_
        refine Zy 508 65535 [13, 5] [true, false] [(13, (_, _))] rfl Y rfl rfl rfl rfl (w_append_subS (by_ := 32) (sz := 2) underlying24 (rfl : Tryz.prog.info? 41 = some Tryz.t41) rfl rfl rfl rfl Y (hrr) Y (subS_new 2 g40 1 1 41 (0, 0) [.int .i64 p, .slice q' cs.length cap'] rfl) (by repeat (first | exact One.here _ _ | apply One.there)) (by repeat (first | exact One.here _ _ | apply One.there)) (by simp [Value.oneCell']) (by omega) (by omega)) ?hk_26 (fun _ _ h => h.elim) ?hl_26
        case hk_26 =>
         rintro _ _ ⟨sR, hrR, rfl⟩
         refine ⟨Zk (keep_nil), ?_⟩
         obtain ⟨gR, cR, rfl⟩ := hrR.form
         refine Zz (l := [16]) ?_
         refine Zy 65532 131071 [13] [false] [] rfl Y rfl rfl rfl rfl (w_append_subS (by_ := 40) (sz := 3) underlying115 (rfl : Tryz.prog.info? 46 = some Tryz.t46) rfl rfl rfl rfl Y (hrh) Y (subS_new 3 g47 1 1 46 (0, 0) [.int .i64 p, .string (str (chainS x.ch (encRec p cs))), .string (str st)] rfl) (by repeat (first | exact One.here _ _ | apply One.there)) (by repeat (first | exact One.here _ _ | apply One.there)) (by simp [Value.oneCell']) (by omega) (by omega)) ?hk_27 (fun _ _ h => h.elim) ?hl_27
         case hk_27 =>
          rintro _ _ ⟨sQ, hrQ, rfl⟩
          refine ⟨keep_nil, ?_⟩
          obtain ⟨gQ, cQ, rfl⟩ := hrQ.form
          refine Zi 262143 17 rfl (p_nilChk Y rfl) <| Zi 524287 18 rfl (p_fieldAddr0 (off := 0) underlying117 rfl rfl sizeOf24 Y) <| Zz (l := [19]) ?_
          refine Zy 524285 1048575 [] [] [] rfl Y rfl rfl rfl rfl (Zs sizeOf24 Y Y rfl (hi := by first | omega | decide | (simp; done))) ?hk_28 (fun _ _ h => h.elim) ?hl_28
          case hk_28 =>
           rintro _ _ ⟨rfl, rfl⟩
           refine ⟨keep_nil, ?_⟩
           refine Zi 2097151 20 rfl (p_nilChk Y rfl) <| Zi 4194303 21 rfl (p_fieldAddr0 (off := 1) underlying117 rfl rfl sizeOf115 Y) <| Zz (l := [22]) ?_
           refine Zy 4194303 8388607 [] [] [] rfl Y rfl rfl rfl rfl (Zs sizeOf115 Y Y rfl (hi := by first | omega | decide | (simp; done))) ?hk_29 (fun _ _ h => h.elim) ?hl_29
           case hk_29 =>
            rintro _ _ ⟨rfl, rfl⟩
            refine ⟨keep_nil, ?_⟩
            refine lin_nil ?_
            refine Zn [] ?_
            refine Zx <| Zq <| Zg <| Za Y <| Z0 <| Zx <| at_ret ?_
            refine nx_end1 rfl results14 Y (by exact ⟨rfl, _, _, sR, sQ, q', cap', sq, hrq, rowS_eq hrR rfl (by rw [recCells_app]; rfl), rowS_eq hrQ rfl (by rw [show hs ++ [x, (⟨p, chainS x.ch (encRec p cs), st⟩ : HeadM)] = hs ++ [x] ++ [⟨p, chainS x.ch (encRec p cs), st⟩] by simp, headCells_app (hs ++ [x])]; rfl), rfl⟩)
           case hl_29 =>
            exact each_nil
          case hl_28 =>
           exact each_nil
         case hl_27 =>
          exact each_nil
        case hl_26 =>
         exact each_nil
       case hl_25 =>
        exact each_nil
      case hl_24 =>
       exact each_nil
    case hl_10 =>
     refine Zy 16384 64639 [14, 13, 6, 5] [false, true, true, true] [(13, (_, _)), (6, (_, _)), (5, (_, _))] rfl Y rfl rfl rfl rfl (w_buildSlice (vs := [_]) (cs := [_, _, _]) underlying115 sizeOf46 zeroValue46 Y rfl rfl rfl rfl rfl) ?hk_31 (fun _ _ h => h.elim) ?hl_31
     case hk_31 =>
      rintro _ _ ⟨g47, rfl, rfl⟩
      refine ⟨Zk (Zk (Zk (keep_nil))), ?_⟩
      refine Zz (l := [7]) ?_
      refine Zy 64 64767 [13, 6, 5] [true, false, true] [(13, (_, _)), (5, (_, _))] rfl Y rfl rfl rfl rfl (Zw [_] Y call60 Y rfl (lt_own p q cap cs M hO (by omega) (by omega))) ?hk_32 no_pan ?hl_32
      case hk_32 =>
       rintro _ _ ⟨_, ⟨q', cap', sq, rfl, hrq, rfl⟩, rfl⟩
       refine ⟨Zk (Zk (keep_nil)), ?_⟩
       refine Zz (l := [8]) ?_
       refine Zy 192 65023 [13, 5] [true, true] [(13, (_, _)), (5, (_, _))] rfl Y rfl rfl rfl rfl (w_buildSlice (vs := [_]) (cs := [_, _]) underlying24 sizeOf41 zeroValue41 Y rfl rfl rfl rfl rfl) ?hk_33 (fun _ _ h => h.elim) ?hl_33
       case hk_33 =>
        rintro _ _ ⟨g40, rfl, rfl⟩
        refine ⟨Zk (Zk (keep_nil)), ?_⟩
        refine Zz (l := [9]) ?_
        refine Zy 508 65535 [13, 5] [true, false] [(13, (_, _))] rfl Y rfl rfl rfl rfl (w_append_subS (by_ := 32) (sz := 2) underlying24 (rfl : Tryz.prog.info? 41 = some Tryz.t41) rfl rfl rfl rfl Y (hrr) Y (subS_new 2 g40 1 1 41 (0, 0) [.int .i64 p, .slice q' cs.length cap'] rfl) (by repeat (first | exact One.here _ _ | apply One.there)) (by repeat (first | exact One.here _ _ | apply One.there)) (by simp [Value.oneCell']) (by omega) (by omega)) ?hk_34 (fun _ _ h => h.elim) ?hl_34
        case hk_34 =>
         rintro _ _ ⟨sR, hrR, rfl⟩
         refine ⟨Zk (keep_nil), ?_⟩
         obtain ⟨gR, cR, rfl⟩ := hrR.form
         refine Zz (l := [16]) ?_
         refine Zy 65532 131071 [13] [false] [] rfl Y rfl rfl rfl rfl (w_append_subS (by_ := 40) (sz := 3) underlying115 (rfl : Tryz.prog.info? 46 = some Tryz.t46) rfl rfl rfl rfl Y (hrh) Y (subS_new 3 g47 1 1 46 (0, 0) [.int .i64 p, .string (str (chainS x.ch (encRec p cs))), .string (str st)] rfl) (by repeat (first | exact One.here _ _ | apply One.there)) (by repeat (first | exact One.here _ _ | apply One.there)) (by simp [Value.oneCell']) (by omega) (by omega)) ?hk_35 (fun _ _ h => h.elim) ?hl_35
         case hk_35 =>
          rintro _ _ ⟨sQ, hrQ, rfl⟩
          refine ⟨keep_nil, ?_⟩
          obtain ⟨gQ, cQ, rfl⟩ := hrQ.form
          refine Zi 262143 17 rfl (p_nilChk Y rfl) <| Zi 524287 18 rfl (p_fieldAddr0 (off := 0) underlying117 rfl rfl sizeOf24 Y) <| Zz (l := [19]) ?_
          refine Zy 524285 1048575 [] [] [] rfl Y rfl rfl rfl rfl (Zs sizeOf24 Y Y rfl (hi := by first | omega | decide | (simp; done))) ?hk_36 (fun _ _ h => h.elim) ?hl_36
          case hk_36 =>
           rintro _ _ ⟨rfl, rfl⟩
           refine ⟨keep_nil, ?_⟩
           refine Zi 2097151 20 rfl (p_nilChk Y rfl) <| Zi 4194303 21 rfl (p_fieldAddr0 (off := 1) underlying117 rfl rfl sizeOf115 Y) <| Zz (l := [22]) ?_
           refine Zy 4194303 8388607 [] [] [] rfl Y rfl rfl rfl rfl (Zs sizeOf115 Y Y rfl (hi := by first | omega | decide | (simp; done))) ?hk_37 (fun _ _ h => h.elim) ?hl_37
           case hk_37 =>
            rintro _ _ ⟨rfl, rfl⟩
            refine ⟨keep_nil, ?_⟩
            refine lin_nil ?_
            refine Zn [] ?_
            refine Zx <| Zq <| Zg <| Za Y <| Z0 <| Zx <| at_ret ?_
            refine nx_end1 rfl results14 Y (by exact ⟨rfl, _, _, sR, sQ, q', cap', sq, hrq, rowS_eq hrR rfl (by rw [recCells_app]; rfl), rowS_eq hrQ rfl (by rw [show hs ++ [x, (⟨p, chainS x.ch (encRec p cs), st⟩ : HeadM)] = hs ++ [x] ++ [⟨p, chainS x.ch (encRec p cs), st⟩] by simp, headCells_app (hs ++ [x])]; rfl), rfl⟩)
           case hl_37 =>
            exact each_nil
          case hl_36 =>
           exact each_nil
         case hl_35 =>
          exact each_nil
        case hl_34 =>
         exact each_nil
       case hl_33 =>
        exact each_nil
      case hl_32 =>
       exact each_nil
     case hl_31 =>
      exact each_nil

end Go.Proofs.YthbadolcncojbaaGreatDoor
