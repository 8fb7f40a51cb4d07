/- state, as a function of the integers. -/
/- Lists of six integers, brought together; what an accepted proof is about. -/
/- The law StatetreeBinding. -/
/- StatetreeBinding as its card wants it. -/
import Derived.Test.YtjeepldonhgohaaGreatDoorEz
import Derived.Test.YtjeepldonhgohaaGreatDoorTr26
import Derived.Test.YtjeepldonhgohaaGreatDoorLd2
import Derived.Test.YtjeepldonhgohaaGreatDoorTr14
import Derived.Test.YtjeepldonhgohaaGreatDoorLd1
import Derived.Test.YtjeepldonhgohaaGreatDoorRt1
import Derived.Test.YtjeepldonhgohaaGreatDoorTr8
import Derived.Test.YtjeepldonhgohaaGreatDoorTr13
import Derived.Test.YtjeepldonhgohaaGreatDoorTr10

namespace Go.Proofs.YtjeepldonhgohaaGreatDoor
open Go.Proofs.Tryz
open Go Go.RowKit Gw
set_option linter.unusedVariables false
set_option linter.unusedSimpArgs false
set_option maxRecDepth 100000
attribute [local irreducible] Gw.At Gw.Nx Gw.Ops
theorem state_F {M : List Chunk} {v : Value} {xs : List (List Int)} (hX : SixIn M v xs) : Does Tryz.prog 8 #[v] [M] (fun r H' => ∃ sp mb es ck lm rp w sv sl l, LogOk l ∧ l.map RecM.cs = logF (xs.take (min xs.length 20)) ∧ r = .tuple #[.pointer (some ⟨sp, 0, none⟩), .pointer (some ⟨rp, 0, none⟩)] ∧ MapM K2 es ck lm ∧ MapR lm (rowsOf l) ∧ RowS 5 74 w (rowsOf l).length (rowCells (rowsOf l)) sv ∧
      H' = [[(sp, .cells #[.map (some mb), .int .i64 (l.length : Int)] 154 (0, 0))], [(mb, .map es ck)], [(rp, .cells #[w, .int .i64 (l.length : Int)] 121 (0, 0))], sv, sl, M]) := by
 have hml : maxLen = 9223372036854775807 := rfl
 obtain ⟨py, capy, rfl, hyl, hgy⟩ := id hX
 have hX2 := six_take hX (min xs.length 20) (Nat.min_le_left _ _)
 have hyk : (xs.take (min xs.length 20)).length ≤ 20 := by rw [List.length_take]; omega
 refine spec_enter func8 rfl ntmps8 rfl ?_
 intro u R
 refine Zb [0] ?_
 refine Zq <| Zg <| Za Y <| Za Y <| Z0 <| Zx <| Zq <| Zg <| Zm Y <| Zm Y <| Zv (p_len_slice underlying22 Y) <| Zv (p_min_nat (n := 20) Y Y) ?_
 (refine op_v (p_slice_slice_to underlying22 sizeOf92 Y Y ?_) ?_; (focus (first | omega | (simp; omega))))
 refine Zc [_] Y call32 Y rfl (r4_logF hX2 (by omega)) ?_
 rintro _ _ ⟨_, ⟨l, sl, hlog, hll, hlF, hRI, rfl⟩, rfl⟩
 obtain ⟨pl, capl, rfl, hlc, hgl⟩ := id hRI
 refine Za Y <| Z0 <| Zx <| Zq <| Zg <| Zm Y <| Zm Y <| Zv (p_len_slice underlying69 Y) <| Zc [_, _] Y call30 Y rfl (st_at pl capl l sl hRI hlog (by omega) l.length (Nat.le_refl _)) ?_
 rintro _ _ ⟨_, ⟨sp, mb, es, ck, lm, rfl, hm, hR, rfl⟩, rfl⟩
 refine Zm Y <| Zd Y rfl <| Zd Y rfl <| Za Y <| Za Y <| Z0 <| Zn [4, 5] ?_
 refine Zx <| Zq <| Zg <| Zm Y <| Zm Y <| Zv (p_len_slice underlying69 Y) <| Zc [_, _] Y call33 Y rfl (r4_at pl capl l sl hRI hlog (by omega) l.length (Nat.le_refl _)) ?_
 rintro _ _ ⟨_, ⟨rp, w, sv, rfl, hrw, rfl⟩, rfl⟩
 refine Zm Y <| Zd Y rfl <| Zd Y rfl <| Za Y <| Za Y <| Z0 <| Zx <| Zq <| Zg <| Zm Y <| Zm Y <| Za Y <| Za Y <| Z0 <| Zn [2, 3] ?_
 refine Zx <| at_ret ?_
 refine nx_end2 rfl results8 Y Y (by rw [List.take_length] at hR hrw; exact ⟨sp, mb, es, ck, lm, rp, w, sv, sl, l, hlog, hlF, rfl, hm, hR, hrw, rfl⟩)

theorem whole_spec {M : List Chunk} {v : Value} {x : RP} (hv : RPIn M v x) : DoesR Tryz.prog 19 #[v] [] (.bool (decide (x.roots.length = 16 ∧ x.paths.length = x.rows.length))) := by
 obtain ⟨vr, vp, vt, rfl, ⟨qr, cr, rfl, _⟩, ⟨qp, cp, rfl, _⟩, ⟨qt, ct, rfl, _⟩⟩ := hv
 refine spec_enter func19 rfl ntmps19 rfl ?_
 intro u R
 refine Zb [0] ?_
 refine Zq <| Zg <| Ze (w_box Y (cs := #[_, _, _, _, _, _, _, _, _]) rfl) ?_
 rintro _ _ ⟨b1, rfl, rfl⟩
 refine Za Y <| Z0 <| Zx <| Zq <| Zg <| Zh 8 underlying37 rfl rfl sizeOf35 Y <| Zl isAgg35 Y ?_
 refine Zv (p_len_slice underlying35 Y) <| Zv (p_eql_nat (n := 16) Y Y) <| Zm Y ?_
 refine ops_split (t := 7) Y rfl (fun h1 => ?_) (fun h1 => ?_)
 ·
  refine Yf 7 underlying37 rfl rfl sizeOf34 Y <| Yl isAgg34 Y ?_
  refine Yg (p_len_slice underlying34 Y) <| Yf 6 underlying37 rfl rfl sizeOf33 Y <| Yl isAgg33 Y ?_
  refine Yg (p_len_slice underlying33 Y) <| Yg (p_eql_nat Y Y) <| Zv (p_pick_t Y Y) <| Za Y <| Z0 <| Zn [2] ?_
  refine Zx <| at_ret ?_
  refine nx_end1 rfl results19 Y (by exact ⟨by exact congrArg Value.bool (decide_eq_decide.2 (by omega)), rfl⟩)
 ·
  refine op_skip Y rfl <| op_skip Y rfl <| op_skip Y rfl <| op_skip Y rfl <| op_skip Y rfl <| op_skip Y rfl <| op_skip Y rfl <| Zv (p_pick_f Y Y) <| Za Y <| Z0 <| Zn [2] ?_
  refine Zx <| at_ret ?_
  refine nx_end1 rfl results19 Y (by exact ⟨by exact congrArg Value.bool (decide_eq_false (by omega)).symm, rfl⟩)

end Go.Proofs.YtjeepldonhgohaaGreatDoor


namespace Go.Proofs.YtjeepldonhgohaaGreatDoor
open Go.Proofs.Tryz
open Go Go.RowKit Gw
set_option linter.unusedVariables false
set_option linter.unusedSimpArgs false
set_option maxRecDepth 100000
attribute [local irreducible] Gw.At Gw.Nx Gw.Ops
def sixCells (xs : List (List Int)) : List Value := xs.flatMap fun z => z.map (Value.int .i64)
theorem six_at : ∀ {xs : List (List Int)}, (∀ z ∈ xs, z.length = 6) → ∀ (i : Nat) (z : List Int), xs[i]? = some z → ∀ j, j < 6 → (sixCells xs)[i * 6 + j]? = (z[j]?).map (Value.int .i64)
  | [], _, i, z, hz, j, _ => by simp at hz
  | y :: xs, h, 0, z, hz, j, hj => by
    injection hz with hz
    subst hz
    have hy := h y (by simp)
    show ((y.map (Value.int .i64)) ++ sixCells xs)[0 * 6 + j]? = _
    rw [List.getElem?_append_left (by rw [List.length_map]; omega), List.getElem?_map, Nat.zero_mul, Nat.zero_add]
  | y :: xs, h, i + 1, z, hz, j, hj => by
    have hy := h y (by simp)
    show ((y.map (Value.int .i64)) ++ sixCells xs)[(i + 1) * 6 + j]? = _
    rw [List.getElem?_append_right (by rw [List.length_map]; omega), List.length_map, hy, show (i + 1) * 6 + j - 6 = i * 6 + j by omega]
    exact six_at (fun z hz => h z (List.mem_cons_of_mem _ hz)) i z hz j hj
theorem sixCells_len : ∀ {xs : List (List Int)}, (∀ z ∈ xs, z.length = 6) → (sixCells xs).length = xs.length * 6
  | [], _ => rfl
  | y :: xs, h => by
    have hy := h y (by simp)
    have ih := sixCells_len (xs := xs) (fun z hz => h z (List.mem_cons_of_mem _ hz))
    show ((y.map (Value.int .i64)) ++ sixCells xs).length = _
    rw [List.length_append, List.length_map, ih, hy, List.length_cons]; omega
theorem sixCells_app (a b : List (List Int)) : sixCells (a ++ b) = sixCells a ++ sixCells b := by unfold sixCells; rw [List.flatMap_append]
theorem sixCells_one (xs : List (List Int)) : ∀ u ∈ sixCells xs, u.oneCell' = true := by
  intro u hu
  obtain ⟨z, _, hz⟩ := List.mem_flatMap.1 hu
  obtain ⟨n, _, rfl⟩ := List.mem_map.1 hz
  rfl
theorem six_all {M : List Chunk} {v : Value} {xs : List (List Int)} (h : SixIn M v xs) : ∀ z ∈ xs, z.length = 6 ∧ ∀ n ∈ z, -9223372036854775808 ≤ n ∧ n ≤ 9223372036854775807 := by
  intro z hz
  obtain ⟨p, cap, rfl, _, hg⟩ := h
  obtain ⟨i, hi⟩ := List.getElem?_of_mem hz
  obtain ⟨h1, h2, _⟩ := hg i z hi
  exact ⟨h1, h2⟩
theorem six_cells {M : List Chunk} {p : Option Addr} {n cap : Nat} {xs : List (List Int)} (h : SixIn M (.slice p n cap) xs) : CellsM M p (sixCells xs) := by
  have hall := six_all h
  obtain ⟨p', cap', e, hl, hg⟩ := h
  injection e with e1 e2 e3
  subst e1
  intro j u hj
  have hjl := (List.getElem?_eq_some_iff.1 hj).1
  rw [sixCells_len fun z hz => (hall z hz).1] at hjl
  obtain ⟨z, hz⟩ : ∃ z, xs[j / 6]? = some z := ⟨_, List.getElem?_eq_getElem (by omega)⟩
  obtain ⟨_, _, g, off, cur, T, zz, hp, hm, hc⟩ := hg (j / 6) z hz
  have h1 := six_at (fun z hz => (hall z hz).1) (j / 6) z hz (j % 6) (by omega)
  rw [show j / 6 * 6 + j % 6 = j by omega, hj] at h1
  obtain ⟨m, hm2, rfl⟩ := Option.map_eq_some_iff.1 h1.symm
  refine ⟨g, off, cur, T, zz, hp, hm, ?_⟩
  have h2 := hc (j % 6) m hm2
  rwa [show off + j / 6 * 6 + j % 6 = off + j by omega] at h2
theorem six_row {e : TypeId} {b : Option Addr} {cap : Nat} {zs : List (List Int)} {s : List Chunk} (h : RowS 6 e (.slice b zs.length cap) zs.length (sixCells zs) s) (hall : ∀ z ∈ zs, z.length = 6 ∧ ∀ n ∈ z, -9223372036854775808 ≤ n ∧ n ≤ 9223372036854775807) (hn : zs.length ≤ maxLen) : SixIn s (.slice b zs.length cap) zs := by
  refine ⟨b, cap, rfl, ⟨hn, rowS_le h⟩, fun i z hz => ?_⟩
  have hlt := (List.getElem?_eq_some_iff.1 hz).1
  obtain ⟨g, cap', cur, zc, hv, rfl, _, _, hin, _⟩ := rowS_open h (by omega)
  injection hv with hv1 _ _
  refine ⟨(hall z (List.mem_of_getElem? hz)).1, (hall z (List.mem_of_getElem? hz)).2, g, 0, cur, e, zc, hv1, by simp, fun j n hj => ?_⟩
  have h1 := six_at (fun z hz => (hall z hz).1) i z hz j (by have := (List.getElem?_eq_some_iff.1 hj).1; have := (hall z (List.mem_of_getElem? hz)).1; omega)
  rw [hj] at h1
  rw [Nat.zero_add]
  exact hin _ _ h1
theorem three_three (l : List Int) (hl : l.length = 9) (hb : ∀ n ∈ l, -9223372036854775808 ≤ n ∧ n ≤ 9223372036854775807) (i : Nat) (hi : i < 3) : ∃ x y z : Int, ((l.map (Value.int .i64)).toArray).extract (0 + i * 3) (0 + i * 3 + 3) = #[.int .i64 x, .int .i64 y, .int .i64 z] ∧ (-9223372036854775808 ≤ x ∧ x ≤ 9223372036854775807) ∧ (-9223372036854775808 ≤ y ∧ y ≤ 9223372036854775807) ∧ (-9223372036854775808 ≤ z ∧ z ≤ 9223372036854775807) := by
  match l, hl with
  | [a, b, c, d, e, f, g, h, k], _ =>
    match i, hi with
    | 0, _ => exact ⟨a, b, c, rfl, hb a (by simp), hb b (by simp), hb c (by simp)⟩
    | 1, _ => exact ⟨d, e, f, rfl, hb d (by simp), hb e (by simp), hb f (by simp)⟩
    | 2, _ => exact ⟨g, h, k, rfl, hb g (by simp), hb h (by simp), hb k (by simp)⟩
theorem nine_of {l : List Int} (h : l.length = 9) : ∃ a b c d e f g i j, l = [a, b, c, d, e, f, g, i, j] := by
  match l, h with
  | [a, b, c, d, e, f, g, i, j], _ => exact ⟨a, b, c, d, e, f, g, i, j, rfl⟩
theorem st_rangeI (v : Value) (p : Int) (rs : List RowM) (s : List Chunk) (hv : StIs v p rs s) (t c : Int) (lo hi : Int) (hc : 0 ≤ c ∧ c < 4) : Does Tryz.prog 25 #[v, .int .i64 t, .int .i64 c, .int .i64 lo, .int .i64 hi] [s] (fun r H' => ∃ so, RowS 5 74 r (rangeL rs t c.toNat lo hi).length (rowCells (rangeL rs t c.toNat lo hi)) so ∧ H' = [so, s]) := by
  obtain ⟨c, rfl⟩ := nat_of hc.1
  exact st_range v p rs s hv t c lo hi (by omega)
theorem rows_short2 {x : RP} (h : x.rows.length ≤ 2000) : (rowsT x).length ≤ 2000 := by
  unfold rowsT
  split
  · exact Nat.le_trans (List.length_filter_le _ _) h
  · exact Nat.zero_le _

end Go.Proofs.YtjeepldonhgohaaGreatDoor


namespace Go.Proofs.YtjeepldonhgohaaGreatDoor
open Go.Proofs.Tryz
open Go Go.RowKit Gw
set_option linter.unusedVariables false
set_option linter.unusedSimpArgs false
set_option maxRecDepth 100000
attribute [local irreducible] Gw.At Gw.Nx Gw.Ops
set_option maxHeartbeats 1000000 in
theorem binding_law {M : List Chunk} {v v2 : Value} {xs ys : List (List Int)} (hX : SixIn M v xs) (hY : SixIn M v2 ys) (a b c d : Int) (ha1 : -9223372036854775808 ≤ a) (ha2 : a ≤ 9223372036854775807) (hb1 : -9223372036854775808 ≤ b) (hb2 : b ≤ 9223372036854775807) (hc1 : -9223372036854775808 ≤ c) (hc2 : c ≤ 9223372036854775807) (hd1 : -9223372036854775808 ≤ d) (hd2 : d ≤ 9223372036854775807) (hw : List Int) (hw9 : hw.length = 9) (hwb : ∀ n ∈ hw, -9223372036854775808 ≤ n ∧ n ≤ 9223372036854775807) (Tg : TypeId) (zg : Nat × Nat) : DoesR Tryz.prog 5 #[v, v2, .agg #[.int .i64 a, .int .i64 b, .int .i64 c, .int .i64 d], .agg (hw.map (Value.int .i64)).toArray] [[(0, .cells (kTab.map u32v).toArray Tg zg)], M] (.bool true) := by
 have hml : maxLen = 9223372036854775807 := rfl
 have hp1 := pickN_lt a 4 (by decide)
 have hp2 := pickN_lt b 4 (by decide)
 have hp3 := pickN_lt c 40 (by decide)
 have hp4 := pickN_lt d 20 (by decide)
 obtain ⟨px, cpx, rfl, hlx, hgx⟩ := id hX
 obtain ⟨py, cpy, rfl, hly, hgy⟩ := id hY
 have hX3 := six_take hX (min xs.length 17) (Nat.min_le_left _ _)
 have hY3 := six_take hY (min ys.length 3) (Nat.min_le_left _ _)
 obtain ⟨zs, hzs⟩ : ∃ zs, zs = (xs.take (min xs.length 17) ++ ys.take (min ys.length 3)) := ⟨_, rfl⟩
 have hzl : zs.length = min xs.length 17 + min ys.length 3 := by rw [hzs, List.length_append, List.length_take, List.length_take]; omega
 have hza : ∀ z ∈ zs, z.length = 6 ∧ ∀ n ∈ z, -9223372036854775808 ≤ n ∧ n ≤ 9223372036854775807 := fun z hz => by
   rw [hzs] at hz
   rcases List.mem_append.1 hz with h | h
   · exact six_all hX3 z h
   · exact six_all hY3 z h
 obtain ⟨w0, w1, w2, w3, w4, w5, w6, w7, w8, rfl⟩ := nine_of hw9
 change ∀ n ∈ _, _ at hwb
 refine spec_enter func5 rfl ntmps5 rfl ?_
 intro u R
 refine Zb [0, 1, 2, 3] ?_
 refine Zq <| Zg <| Ze (w_box Y (cs := #[_, _, _, _]) rfl) ?_
 rintro _ _ ⟨bq, rfl, rfl⟩
 refine Ze (w_box Y (cs := #[_, _, _, _, _, _, _, _, _]) rfl) ?_
 rintro _ _ ⟨bw, rfl, rfl⟩
 refine Za Y <| Z0 <| Zx <| Zq <| Zg <| Zr [] Y call7 Y rfl (sane10 Tg zg) ?_
 rintro _ _ ⟨rfl, rfl⟩
 refine Za Y <| Z0 <| Zx <| Zq <| Zg <| Zm Y <| Zc [_] Y call8 Y rfl (state_F hX) ?_
 rintro _ _ ⟨_, ⟨sp, mm, es, ck, lm, rp, w, sv, sl, l, hlog, hlF, rfl, hm, hR, hrw, rfl⟩, rfl⟩
 obtain ⟨hs, hn⟩ := hlog.all
 have hok := hlog.rowsOk l.length (Nat.le_refl _)
 rw [List.take_length] at hok
 have hrF := rowsC_of l
 obtain ⟨rs, hrs⟩ : ∃ rs, rs = rowsOf l := ⟨_, rfl⟩
 rw [← hrs] at hR hs hn hok hrw hrF
 have hst : StIs (.pointer (some ⟨sp, 0, none⟩)) (l.length : Int) rs [(sp, .cells #[.map (some mm), .int .i64 (l.length : Int)] 154 (0, 0)), (mm, .map es ck)] := ⟨sp, mm, es, ck, lm, rfl, hm, hR, hs, hn, rfl⟩
 refine Zm Y <| Zd Y rfl <| Zd Y rfl <| Za Y <| Za Y <| Z0 <| Zx <| Zq <| at_draw (n := 19) (0 :: 0 :: 0 :: 4 :: 12 :: 30 :: 63 :: 0 :: 0 :: 256 :: 768 :: 1920 :: 4095 :: 8191 :: 16383 :: 32767 :: 32767 :: 65535 :: 262143 :: []) 12353 (by kernel_rfl) (by kernel_rfl) rfl ?_
 refine Zi 2 1 rfl (p_move Y) <| Zi 6 2 rfl (p_move Y) <| Zi 14 3 rfl (p_len_slice underlying22 Y) <| Zi 30 4 rfl (p_min_nat (n := 17) Y Y) ?_
 (refine lin_v (D' := 62) 5 (p_slice_slice_to underlying22 sizeOf92 Y Y ?_) ?_; (focus (first | omega | (simp; omega))))
 refine Zi 190 7 rfl (p_move Y) <| Zi 446 8 rfl (p_move Y) <| Zi 958 9 rfl (p_len_slice underlying22 Y) <| Zi 1982 10 rfl (p_min_nat (n := 3) Y Y) ?_
 (refine lin_v (D' := 4030) 11 (p_slice_slice_to underlying22 sizeOf92 Y Y ?_) ?_; (focus (first | omega | (simp; omega))))
 refine Zz (l := [0]) ?_
 refine Zy 0 4031 [] [] [] rfl Y rfl rfl rfl rfl (w_buildSlice0 underlying22 sizeOf92) ?hk_1 (fun _ _ h => h.elim) ?hl_1
 case hk_1 =>
  rintro _ _ ⟨g6, rfl, rfl⟩
  refine ⟨keep_nil, ?_⟩
  refine Zz (l := [6]) ?_
  refine Zy 63 4095 [] [] [] rfl Y rfl rfl rfl rfl (w_appendM (by_ := 48) (sz := 6) underlying22 (rfl : Tryz.prog.info? 92 = some Tryz.t92) rfl rfl rfl rfl Y (rowS_new 6 92 g6 0 [] rfl (by decide)) Y (six_cells hX3) (by rw [sixCells_len fun z hz => (six_all hX3 z hz).1, List.length_take]; omega) (by decide) (by repeat (first | exact One.here _ _ | apply One.there)) (by repeat (first | exact One.here _ _ | apply One.there)) (by exact sixCells_one _) (by omega) (by omega)) ?hk_2 (fun _ _ h => h.elim) ?hl_2
  case hk_2 =>
   rintro _ _ ⟨sa1, hra1, rfl⟩
   refine ⟨keep_nil, ?_⟩
   obtain ⟨ga1, ca1, rfl⟩ := hra1.form
   refine Zz (l := [12]) ?_
   refine Zy 4095 8191 [] [] [] rfl Y rfl rfl rfl rfl (w_appendM (by_ := 48) (sz := 6) underlying22 (rfl : Tryz.prog.info? 92 = some Tryz.t92) rfl rfl rfl rfl Y (hra1) Y (six_cells hY3) (by rw [sixCells_len fun z hz => (six_all hY3 z hz).1, List.length_take]; omega) (by decide) (by repeat (first | exact One.here _ _ | apply One.there)) (by repeat (first | exact One.here _ _ | apply One.there)) (by exact sixCells_one _) (by omega) (by omega)) ?hk_3 (fun _ _ h => h.elim) ?hl_3
   case hk_3 =>
    rintro _ _ ⟨sa2, hra2, rfl⟩
    refine ⟨keep_nil, ?_⟩
    replace hra2 := rowS_eq (n' := zs.length) (xs' := sixCells zs) hra2 (by omega) (by rw [hzs, sixCells_app, List.nil_append])
    obtain ⟨ga2, ca2, rfl⟩ := hra2.form
    have hZ := six_row hra2 hza (by omega)
    refine Zz (l := [13]) ?_
    refine Zy 8191 16383 [] [] [] rfl Y rfl rfl rfl rfl (Zw [_] Y call8 Y rfl (state_F hZ)) ?hk_4 no_pan ?hl_4
    case hk_4 =>
     rintro _ _ ⟨_, ⟨spB, mmB, esB, ckB, lmB, rpB, wB, svB, slB, lB, hlogB, hlFB, rfl, hmB, hRB, hrwB, rfl⟩, rfl⟩
     refine ⟨keep_nil, ?_⟩
     obtain ⟨hsB, hnB⟩ := hlogB.all
     have hokB := hlogB.rowsOk lB.length (Nat.le_refl _)
     rw [List.take_length] at hokB
     have hrFB := rowsC_of lB
     obtain ⟨rsB, hrsB⟩ : ∃ rsB, rsB = rowsOf lB := ⟨_, rfl⟩
     rw [← hrsB] at hRB hsB hnB hokB hrwB hrFB
     have hstB : StIs (.pointer (some ⟨spB, 0, none⟩)) (lB.length : Int) rsB [(spB, .cells #[.map (some mmB), .int .i64 (lB.length : Int)] 154 (0, 0)), (mmB, .map esB ckB)] := ⟨spB, mmB, esB, ckB, lmB, rfl, hmB, hRB, hsB, hnB, rfl⟩
     refine Zi 32767 14 rfl (p_move Y) <| Zi 65535 15 rfl (p_extract Y rfl) <| Zi 131071 16 rfl (p_extract Y rfl) <| Zi 262143 17 rfl (p_assign Y) <| Zi 524287 18 rfl (p_assign Y) <| lin_nil ?_
     refine Zn [6, 7, 9, 10, 11, 12] ?_
     refine Zx <| Zq <| at_join (s1 := [(sp, _)]) (s2 := [(mm, _)]) (by repeat (first | exact One.here _ _ | apply One.there)) (by repeat (first | exact One.here _ _ | apply One.there)) ?_
     refine at_join (s1 := [(spB, _)]) (s2 := [(mmB, _)]) (by repeat (first | exact One.here _ _ | apply One.there)) (by repeat (first | exact One.here _ _ | apply One.there)) ?_
     refine Zg <| Zo (by repeat (first | exact Has.here _ | apply Has.there)) (p_load_agg (cs := #[_, _, _, _]) isAgg23 sizeOf23 Y (by first | decide | exact Nat.le_refl _ | (simp; done) | (simp; omega)) (by rfl)) ?_
     refine Zr [_] Y call11 Y rfl (asked_spec a b c d ha1 ha2 hb1 hb2 hc1 hc2 hd1 hd2) ?_
     rintro _ _ ⟨rfl, rfl⟩
     refine Ze (w_alloc zeroValue23 (cs := #[_, _, _, _]) rfl) ?_
     rintro _ _ ⟨by_, rfl, rfl⟩
     refine Ze (w_store_agg sizeOf23 Y Y (by (simp [Value.oneCell']; done)) (by repeat (first | exact Upd.here _ | apply Upd.there)) (by exact (rfl : _ = (#[.int .i64 (pickN a 4 : Int), .int .i64 (pickN b 4 : Int), .int .i64 ((pickN c 40 : Int) - 20), .int .i64 ((pickN c 40 : Int) - 20 + (pickN d 20 : Int))] : Array Value))) (by first | rfl | (simp; done)) (by first | decide | exact Nat.le_refl _ | (simp; done) | (simp; omega)) (by exact free_zero _)) ?_
     rintro _ _ ⟨rfl, rfl⟩
     refine Z0 <| Zx <| Zq <| Zg <| Zm Y ?_
     (refine op_v (p_indexAddr_arr0 (j := 0) underlying23 sizeOf3 Y Y ?_) ?_; (focus (first | omega | decide | (simp; done))))
     refine Zl isAgg3 Y ?_
     (refine op_v (p_indexAddr_arr0 (j := 1) underlying23 sizeOf3 Y Y ?_) ?_; (focus (first | omega | decide | (simp; done))))
     refine Zl isAgg3 Y ?_
     (refine op_v (p_indexAddr_arr0 (j := 2) underlying23 sizeOf3 Y Y ?_) ?_; (focus (first | omega | decide | (simp; done))))
     refine Zl isAgg3 Y ?_
     (refine op_v (p_indexAddr_arr0 (j := 3) underlying23 sizeOf3 Y Y ?_) ?_; (focus (first | omega | decide | (simp; done))))
     refine Zl isAgg3 Y ?_
     refine Zc [_, _, _, _, _] Y call12 Y rfl (prove_spec _ _ rsB _ hstB hsB hnB hokB (pickN a 4) (pickN b 4) (by omega) (by omega) ((pickN c 40 : Int) - 20) ((pickN c 40 : Int) - 20 + (pickN d 20 : Int)) (by omega) Tg zg) ?_
     rintro _ _ ⟨_, ⟨va, ma, rfl, hA, rfl⟩, rfl⟩
     obtain ⟨ra, pa, ta, rfl, hRa, hPa, hTa⟩ := id hA
     obtain ⟨qra, cra, rfl, hlra, hgra⟩ := id hRa
     obtain ⟨qpa, cpa, rfl, hlpa, hgpa⟩ := id hPa
     obtain ⟨qta, cta, rfl, hlta, hgta⟩ := id hTa
     have hIa := prove_damI hsB hnB hokB (pickN a 4) (pickN b 4) ((pickN c 40 : Int) - 20) ((pickN c 40 : Int) - 20 + (pickN d 20 : Int)) (by omega) (by omega) (by omega)
     refine Zm Y <| Zd Y rfl <| Zd Y rfl <| Ze (w_alloc zeroValue37 (cs := #[_, _, _, _, _, _, _, _, _]) rfl) ?_
     rintro _ _ ⟨ba, rfl, rfl⟩
     refine Ze (w_store_agg sizeOf37 Y Y (by (simp [Value.oneCell']; done)) (by repeat (first | exact Upd.here _ | apply Upd.there)) (by exact (rfl : _ = (#[_, _, _, _, _, _, _, _, _] : Array Value))) (by first | rfl | (simp; done)) (by first | omega | decide | (simp; done)) (by exact free_zero _)) ?_
     rintro _ _ ⟨rfl, rfl⟩
     refine Za Y <| Z0 <| Zn [7, 9, 10, 11, 15, 16] ?_
     refine Zx <| Zq <| Zq <| Zg <| Zm Y <| Zv (p_neq_nat (n := 0) Y Y) <| Zm Y ?_
     refine ops_split (t := 61) Y rfl (fun k1 => ?_) (fun k1 => ?_)
     ·
      exact absurd rfl k1
     ·
      refine op_rg Y (by repeat (first | exact Has.here _ | apply Has.there)) (p_load_agg (cs := #[_, _, _, _, _, _, _, _, _]) isAgg37 sizeOf37 Y (by first | decide | exact Nat.le_refl _ | (simp; done) | (simp; omega)) (by rfl)) rfl rfl ?_
      refine Zr [_] Y call19 Y rfl (whole_spec hA) ?_
      rintro _ _ ⟨rfl, rfl⟩
      rw [decide_eq_true (show (proveT rsB (pickN a 4) (pickN b 4) ((pickN c 40 : Int) - 20) ((pickN c 40 : Int) - 20 + (pickN d 20 : Int))).roots.length = 16 ∧ (proveT rsB (pickN a 4) (pickN b 4) ((pickN c 40 : Int) - 20) ((pickN c 40 : Int) - 20 + (pickN d 20 : Int))).paths.length = (proveT rsB (pickN a 4) (pickN b 4) ((pickN c 40 : Int) - 20) ((pickN c 40 : Int) - 20 + (pickN d 20 : Int))).rows.length from ⟨hIa.nt, hIa.np⟩)]
      refine Yg (p_not Y) <| Zv (p_pick_f Y Y) <| Z0 <| Zx ?_
      refine at_if_bool Y (fun k2 => ?_) (fun k2 => ?_)
      ·
       cases k2
      ·
       refine at_skip <| Zx <| Zq <| Zq <| Zg <| Za Y <| Z0 <| Zx <| at_block <| Zb [17, 7, 9, 10, 11, 15] ?_
       refine at_loopB (e0 := [(17, _)]) (H0 := _) (n := _) (fun m e H => ∃ (i : Nat) (D : RP) (qa qc qe : Option Addr) (qb qd qf : Nat) (mem : List Chunk), m = 3 - i ∧ (i ≤ 3 ∧ RPIn mem (.agg #[.int .i64 D.tb, .int .i64 D.cl, .int .i64 D.lo, .int .i64 D.hi, .int .i64 D.ct, .int .i64 D.fi, .slice qa D.rows.length qb, .slice qc D.paths.length qd, .slice qe D.roots.length qf]) D ∧ DamI D (1000000000 + 10 * (i : Int))) ∧ e = [(17, .int .i64 (i : Int))] ∧ H = [[(ba, .cells #[.int .i64 D.tb, .int .i64 D.cl, .int .i64 D.lo, .int .i64 D.hi, .int .i64 D.ct, .int .i64 D.fi, .slice qa D.rows.length qb, .slice qc D.paths.length qd, .slice qe D.roots.length qf] 37 (0, 0))], mem]) (by exact ⟨0, (proveT rsB (pickN a 4) (pickN b 4) ((pickN c 40 : Int) - 20) ((pickN c 40 : Int) - 20 + (pickN d 20 : Int))), _, _, _, _, _, _, ma, rfl, ⟨Nat.zero_le _, hA, hIa⟩, rfl, rfl⟩) (by repeat (first | exact Pull.nil _ | (apply Pull.cons; (focus (repeat (first | exact One.here _ _ | apply One.there)))))) ?_
       rintro _ _ _ ⟨i, D, qa, qc, qe, qb, qd, qf, mem, rfl, ⟨hi, hD, hI⟩, rfl, rfl⟩
       refine Zq <| Zq <| Zg <| Zm Y <| Zv (p_lss_nat (n := 3) Y Y) <| Z0 <| Zx ?_
       refine at_if Y (fun hlt => ?_) (fun hlt => ?_)
       ·
        obtain ⟨x3, y3, z3, hx3, hx3b, hy3b, hz3b⟩ := three_three _ hw9 hwb i hlt
        have hshort := rows_short2 hI.nr
        refine at_skip <| Zx <| Zq <| at_block <| Zq <| Zg <| Zo (by repeat (first | exact Has.here _ | apply Has.there)) (p_load_agg (cs := #[_, _, _, _, _, _, _, _, _]) isAgg37 sizeOf37 Y (by first | omega | decide | (simp; done)) (by rfl)) ?_
        refine Zc [_] Y call14 Y rfl (rows_spec hD) ?_
        rintro _ _ ⟨_, ⟨vx, sx, rfl, hx, rfl⟩, rfl⟩
        obtain ⟨qx, cx, rfl⟩ := hx.form
        have hUx := rowsU_row hx (by omega)
        refine Zm Y <| Zd Y rfl <| Zd Y rfl <| Za Y <| Za Y <| Z0 <| Zx <| Zb [18, 19, 7, 9, 10, 11, 15, 17] ?_
        refine at_cutB (e0 := [(18, _), (19, _)]) (H0 := []) (fun e H => (True) ∧ e = [] ∧ H = []) (by repeat (first | exact Pull.nil _ | (apply Pull.cons; (focus (repeat (first | exact One.here _ _ | apply One.there)))))) ?hx_6 ?hy_6
        case hx_6 =>
         refine Zq <| at_draw (n := 4) (0 :: 1 :: 0 :: 7 :: []) 10 (by kernel_rfl) (by kernel_rfl) rfl ?_
         refine Zi 1 0 rfl (p_move Y) <| lin_r (D' := 5) 2 rfl rfl rfl (by repeat (first | exact Has.here _ | apply Has.there)) (p_load_agg (cs := #[_, _, _, _, _, _, _, _, _]) isAgg37 sizeOf37 Y (by first | omega | decide | (simp; done)) (by rfl)) ?_
         refine Zz (l := [1]) ?_
         refine Zy 1 7 [2] [true] [(2, (_, _))] rfl Y rfl rfl rfl rfl (Zu [_] Y call9 Y rfl (root_st _ _ rs _ hst hs hn hok Tg zg)) ?hk_7 (fun _ _ h => h.elim) ?hl_7
         case hk_7 =>
          rintro _ _ ⟨rfl, rfl⟩
          refine ⟨Zk (keep_nil), ?_⟩
          refine Zz (l := [3]) ?_
          refine Zy 7 15 [2] [false] [] rfl Y rfl rfl rfl rfl (Zu [_, _] Y call23 Y rfl (verify_proof hD (fun s h => by have := hI.sr s h; omega) hI.sp (rootS rs) Tg zg)) ?hk_8 (fun _ _ h => h.elim) ?hl_8
          case hk_8 =>
           rintro _ _ ⟨rfl, rfl⟩
           refine ⟨keep_nil, ?_⟩
           refine lin_nil ?_
           refine Zx ?_
           refine at_if Y (fun hV => ?_) (fun hV => ?_)
           ·
            have hVc := hV.comp
            rw [decide_eq_true hVc]
            have hbd := ver_bind hV
            have hA2 := all_ok hs hn hok
            have hcn := computed_len hI.sp (by rw [hI.nt]; decide) hI.nr
            have hsp := ver_paths hV
            have htc := hVc.tc
            have hrl2 : (rangeL rs D.tb D.cl.toNat D.lo D.hi).length ≤ 2000 := by rw [(rangeL_perm rs _ _ _ _).length_eq]; exact Nat.le_trans (List.length_filter_le _ _) hn
            refine Zq <| Zq <| Zg <| Zm Y <| Zv (p_not Y) <| Z0 <| Zx ?_
            refine at_if_bool Y (fun k5 => ?_) (fun k5 => ?_)
            ·
             (cases k5; done)
            ·
             refine at_skip <| Zx <| Zq <| Zg <| Zm Y <| Zm Y <| Zh 0 underlying37 rfl rfl sizeOf3 Y <| Zl isAgg3 Y ?_
             refine Zh 1 underlying37 rfl rfl sizeOf3 Y <| Zl isAgg3 Y ?_
             refine Zh 2 underlying37 rfl rfl sizeOf3 Y <| Zl isAgg3 Y ?_
             refine Zh 3 underlying37 rfl rfl sizeOf3 Y <| Zl isAgg3 Y ?_
             refine Zc [_, _, _, _, _] Y call25 Y rfl (st_rangeI _ _ rs _ hst D.tb D.cl D.lo D.hi (by omega)) ?_
             rintro _ _ ⟨_, ⟨so, hso, rfl⟩, rfl⟩
             obtain ⟨qo, co, rfl⟩ := hso.form
             have hUo := rowsU_row hso (by omega)
             refine Zr [_, _] Y call17 Y rfl (r4_same2 hUx hUo) ?_
             rintro _ _ ⟨rfl, rfl⟩
             refine Zm Y ?_
             refine ops_split (t := 93) Y rfl (fun hf => ?_) (fun hf => ?_)
             ·
              refine op_skip Y rfl <| op_skip Y rfl <| op_skip Y rfl <| op_skip Y rfl <| op_skip Y rfl <| Zv (p_pick_t Y Y) <| Za Y <| Z0 <| Zn [7, 9, 10, 11, 15, 17, 20] ?_
              refine Zx <| Zq <| Zg <| Zm Y <| Zv (p_not Y) <| Z0 <| Zx ?_
              refine at_if_bool Y (fun k6 => ?_) (fun k6 => ?_)
              ·
               (cases k6; done)
              ·
               refine at_skip <| Zn [7, 9, 10, 11, 15, 17] ?_
               refine nx_cutB (e' := []) (H' := _) (by exact ⟨trivial, rfl, rfl⟩)
             ·
              have hcl := hbd.resolve_left fun hb => hf (bound_rows hs hn hok hb hVc)
              refine op_rg Y (by repeat (first | exact Has.here _ | apply Has.there)) (p_load_agg (cs := #[_, _, _, _, _, _, _, _, _]) isAgg37 sizeOf37 Y (by first | omega | decide | (simp; done)) (by rfl)) rfl rfl ?_
              refine Zc [_] Y call27 Y rfl (r10_computed hD hVc (by rw [hI.nt]; decide) hI.sr hI.sp hsp) ?_
              rintro _ _ ⟨_, ⟨so1, ho1, rfl⟩, rfl⟩
              have hU1 := strsU_row (rowS_eq ho1 rfl rfl) (by omega)
              refine Zf Y Y <| Zc [_] Y call28 Y rfl (r10_all rp _ w rs sv hrw hn hs hok) ?_
              rintro _ _ ⟨_, ⟨so2, ho2, rfl⟩, rfl⟩
              have hU2 := strsU_row (rowS_eq ho2 rfl rfl) (by omega)
              refine Zr [_, _] Y call26 Y rfl (r10_coll hU1 hU2 hcn (computed_ok hVc hI.sr hsp) (fun s h => by have := hA2.1 s h; omega)) ?_
              rintro _ _ ⟨rfl, rfl⟩
              rw [decide_eq_true hcl]
              refine Zv (p_pick_f Y Y) <| Za Y <| Z0 <| Zn [7, 9, 10, 11, 15, 17, 20] ?_
              refine Zx <| Zq <| Zg <| Zm Y <| Zv (p_not Y) <| Z0 <| Zx ?_
              refine at_if_bool Y (fun k6 => ?_) (fun k6 => ?_)
              ·
               (cases k6; done)
              ·
               refine at_skip <| Zn [7, 9, 10, 11, 15, 17] ?_
               refine nx_cutB (e' := []) (H' := _) (by exact ⟨trivial, rfl, rfl⟩)
           ·
            refine at_skip <| Zn [7, 9, 10, 11, 15, 17] ?_
            refine nx_cutB (e' := []) (H' := _) (by exact ⟨trivial, rfl, rfl⟩)
          case hl_8 =>
           exact each_nil
         case hl_7 =>
          exact each_nil
        case hy_6 =>
         rintro _ _ ⟨_, rfl, rfl⟩
         refine Zq <| at_draw (n := 6) (0 :: 0 :: 2 :: 6 :: 15 :: 31 :: []) 48 (by kernel_rfl) (by kernel_rfl) rfl ?_
         refine lin_r (D' := 1) 0 rfl rfl rfl (by repeat (first | exact Has.here _ | apply Has.there)) (p_load_agg (cs := #[_, _, _, _, _, _, _, _, _]) isAgg37 sizeOf37 Y (by first | omega | (simp; omega) | (simp; done)) (by rfl)) ?_
         refine Zi 3 1 rfl (p_move Y) ?_
         (refine lin_v (D' := 7) 2 (p_indexAddr_arr underlying55 sizeOf47 Y Y ?_) ?_; (focus (first | omega | (simp; omega) | (simp; done))))
         refine lin_r (D' := 15) 3 rfl rfl rfl (by repeat (first | exact Has.here _ | apply Has.there)) (p_load_agg (cs := #[.int .i64 x3, .int .i64 y3, .int .i64 z3]) isAgg47 sizeOf47 Y (by first | omega | (simp; omega)) hx3) ?_
         refine Zz (l := [4]) ?_
         refine Zy 15 31 [3, 0] [false, false] [] rfl Y rfl rfl rfl rfl (Zw [_, _] Y call21 Y rfl (damaged_spec hD hI (by omega) x3 y3 z3 hx3b.1 hx3b.2 hy3b.1 hy3b.2 hz3b.1 hz3b.2 Tg zg)) ?hk_12 no_pan ?hl_12
         case hk_12 =>
          rintro _ _ ⟨_, ⟨md, hD2, hsub, rfl⟩, rfl⟩
          refine ⟨keep_nil, ?_⟩
          have hI2 := damI_step hI x3 y3 z3
          obtain ⟨D2, hD9⟩ : ∃ D2, D2 = damT D x3 y3 z3 := ⟨_, rfl⟩
          rw [← hD9] at hD2 hI2
          obtain ⟨rd, pd, td, rfl, hRd, hPd, hTd⟩ := id hD2
          obtain ⟨qrd, crd, rfl, hlrd, hgrd⟩ := id hRd
          obtain ⟨qpd, cpd, rfl, hlpd, hgpd⟩ := id hPd
          obtain ⟨qtd, ctd, rfl, hltd, hgtd⟩ := id hTd
          refine Zz (l := [5]) ?_
          refine Zy 31 63 [] [] [] rfl Y rfl rfl rfl rfl (w_store_agg sizeOf37 Y Y (by (simp [Value.oneCell']; done)) (by repeat (first | exact Upd.here _ | apply Upd.there)) (by exact (rfl : _ = (#[_, _, _, _, _, _, _, _, _] : Array Value))) (by first | rfl | (simp; done)) (by first | omega | (simp; omega) | (simp; done)) (by exact free_zero _)) ?hk_13 (fun _ _ h => h.elim) ?hl_13
          case hk_13 =>
           rintro _ _ ⟨rfl, rfl⟩
           refine ⟨keep_nil, ?_⟩
           refine lin_nil ?_
           refine Zx <| Zq <| Zg <| Zh 8 underlying37 rfl rfl sizeOf35 Y <| Zl isAgg35 Y ?_
           refine Zv (p_len_slice underlying35 Y) <| Zv (p_eql_nat (n := 0) Y Y) <| Z0 <| Zx ?_
           refine at_if Y (fun k9 => ?_) (fun k9 => ?_)
           ·
            exfalso; have := hI2.nt; omega
           ·
            refine at_skip <| nx_block_normal <| Zx <| Zg <| Zm Y <| Ya (n := 1) Y Y <| Za Y <| Z0 <| Zn [17, 7, 9, 10, 11, 15] ?_
            refine nx_againB (e' := [(17, _)]) (m := _) (H' := _) (by exact ⟨i + 1, D2, _, _, _, _, _, _, md, rfl, ⟨by omega, hD2, by rw [show 1000000000 + 10 * ((i + 1 : Nat) : Int) = 1000000000 + 10 * (i : Int) + 10 by omega]; exact hI2⟩, rfl, rfl⟩)
          case hl_13 =>
           exact each_nil
         case hl_12 =>
          exact each_nil
       ·
        refine at_exit <| Zt <| Zt <| nx_block_exit <| Zx <| Zq <| Zg <| Zm Y <| Za Y <| Z0 <| Zx <| at_ret ?_
        refine nx_end1 rfl results5 Y (by exact ⟨rfl, rfl⟩)
    case hl_4 =>
     exact each_nil
   case hl_3 =>
    exact each_nil
  case hl_2 =>
   exact each_nil
 case hl_1 =>
  exact each_nil

end Go.Proofs.YtjeepldonhgohaaGreatDoor


namespace Go.Proofs.YtjeepldonhgohaaGreatDoor
open Go.Proofs.Tryz
open Go Go.RowKit Gw
set_option linter.unusedVariables false
set_option linter.unusedSimpArgs false
set_option maxRecDepth 100000
attribute [local irreducible] Gw.At Gw.Nx Gw.Ops
theorem binding_card (p : Option Addr) (cap : Nat) (xs : List (List Int)) (M : List Chunk) (hX : SixIn M (.slice p xs.length cap) xs) (p2 : Option Addr) (cap2 : Nat) (ys : List (List Int)) (hY : SixIn M (.slice p2 ys.length cap2) ys) (a b c d : Int) (ha : -9223372036854775808 ≤ a ∧ a ≤ 9223372036854775807) (hb : -9223372036854775808 ≤ b ∧ b ≤ 9223372036854775807) (hc : -9223372036854775808 ≤ c ∧ c ≤ 9223372036854775807) (hd : -9223372036854775808 ≤ d ∧ d ≤ 9223372036854775807) (i1 i2 i3 i4 i5 i6 i7 i8 i9 : Int) (hi1 : -9223372036854775808 ≤ i1 ∧ i1 ≤ 9223372036854775807) (hi2 : -9223372036854775808 ≤ i2 ∧ i2 ≤ 9223372036854775807) (hi3 : -9223372036854775808 ≤ i3 ∧ i3 ≤ 9223372036854775807) (hi4 : -9223372036854775808 ≤ i4 ∧ i4 ≤ 9223372036854775807) (hi5 : -9223372036854775808 ≤ i5 ∧ i5 ≤ 9223372036854775807) (hi6 : -9223372036854775808 ≤ i6 ∧ i6 ≤ 9223372036854775807) (hi7 : -9223372036854775808 ≤ i7 ∧ i7 ≤ 9223372036854775807) (hi8 : -9223372036854775808 ≤ i8 ∧ i8 ≤ 9223372036854775807) (hi9 : -9223372036854775808 ≤ i9 ∧ i9 ≤ 9223372036854775807) (Tg : TypeId) (zg : Nat × Nat) :
    DoesR Tryz.prog 5 #[.slice p xs.length cap, .slice p2 ys.length cap2, .agg #[.int .i64 a, .int .i64 b, .int .i64 c, .int .i64 d], .agg #[.int .i64 i1, .int .i64 i2, .int .i64 i3, .int .i64 i4, .int .i64 i5, .int .i64 i6, .int .i64 i7, .int .i64 i8, .int .i64 i9]] [[(0, .cells (kTab.map u32v).toArray Tg zg)], M] (.bool true) := binding_law hX hY a b c d ha.1 ha.2 hb.1 hb.2 hc.1 hc.2 hd.1 hd.2 [i1, i2, i3, i4, i5, i6, i7, i8, i9] rfl (by
    intro n hn
    simp only [List.mem_cons, List.not_mem_nil, or_false] at hn
    rcases hn with rfl | rfl | rfl | rfl | rfl | rfl | rfl | rfl | rfl <;> assumption) Tg zg

end Go.Proofs.YtjeepldonhgohaaGreatDoor
