/- The law StatetreeColumns. -/
/- state, as a function of the integers. -/
import Derived.Test.YtcbjoojdfelgaaaGreatDoorEz
import Derived.Test.YtcbjoojdfelgaaaGreatDoorTr14
import Derived.Test.YtcbjoojdfelgaaaGreatDoorLd1
import Derived.Test.YtcbjoojdfelgaaaGreatDoorLd2
namespace Go.Proofs.YtcbjoojdfelgaaaGreatDoor
open Go.Proofs.Tryz
open Go Go.RowKit Gw
set_option linter.unusedVariables false
set_option linter.unusedSimpArgs false
set_option maxRecDepth 100000
attribute [local irreducible] Gw.At Gw.Nx Gw.Ops
theorem r4_same2 {M M' : List Chunk} {va vb : Value} {a b : List RowM} (ha : RowsU M va a) (hb : RowsU M' vb b) : DoesR Tryz.prog 9 #[va, vb] [M, M'] (.bool (decide (a = b))) := by
  refine does_re (r4_same (ha.mono (fun c hc => List.mem_append_left M' hc)) (hb.mono (fun c hc => List.mem_append_right M hc))) (by simp) ?_
  rintro r H' ⟨rfl, rfl⟩
  exact ⟨_, ⟨rfl, rfl⟩, by simp⟩
theorem r2_same2 {M M' : List Chunk} {va vb : Value} {a b : List Bs} (ha : StrsU M va a) (hb : StrsU M' vb b) : DoesR Tryz.prog 24 #[va, vb] [M, M'] (.bool (decide (a = b))) := by
  refine does_re (r2_same (ha.mono (fun c hc => List.mem_append_left M' hc)) (hb.mono (fun c hc => List.mem_append_right M hc))) (by simp) ?_
  rintro r H' ⟨rfl, rfl⟩
  exact ⟨_, ⟨rfl, rfl⟩, by simp⟩

end Go.Proofs.YtcbjoojdfelgaaaGreatDoor


namespace Go.Proofs.YtcbjoojdfelgaaaGreatDoor
open Go.Proofs.Tryz
open Go Go.RowKit Gw
set_option linter.unusedVariables false
set_option linter.unusedSimpArgs false
set_option maxRecDepth 100000
attribute [local irreducible] Gw.At Gw.Nx Gw.Ops
theorem state_F {M : List Chunk} {v : Value} {xs : List (List Int)} (hX : SixIn M v xs) : Does Tryz.prog 8 #[v] [M] (fun r H' => ∃ sp mb es ck lm rp w sv sl l, LogOk l ∧ l.map RecM.cs = logF (xs.take (min xs.length 20)) ∧ r = .tuple #[.pointer (some ⟨sp, 0, none⟩), .pointer (some ⟨rp, 0, none⟩)] ∧ MapM K2 es ck lm ∧ MapR lm (rowsOf l) ∧ RowS 5 60 w (rowsOf l).length (rowCells (rowsOf l)) sv ∧
      H' = [[(sp, .cells #[.map (some mb), .int .i64 (l.length : Int)] 92 (0, 0))], [(mb, .map es ck)], [(rp, .cells #[w, .int .i64 (l.length : Int)] 31 (0, 0))], sv, sl, M]) := by
 have hml : maxLen = 9223372036854775807 := rfl
 obtain ⟨py, capy, rfl, hyl, hgy⟩ := id hX
 have hX2 := six_take hX (min xs.length 20) (Nat.min_le_left _ _)
 have hyk : (xs.take (min xs.length 20)).length ≤ 20 := by rw [List.length_take]; omega
 refine spec_enter func8 rfl ntmps8 rfl ?_
 intro u R
 refine Zb [0] ?_
 refine Zq <| Zg <| Za Y <| Za Y <| Z0 <| Zx <| Zq <| Zg <| Zm Y <| Zm Y <| Zv (p_len_slice underlying22 Y) ?_
 first | refine op_v (p_min_nat (n := 20) Y Y) ?_ | refine op_v (p_min_int Y Y) ?_
 (refine op_v (p_slice_slice_to underlying22 sizeOf80 Y Y ?_) ?_; (focus (first | omega | (simp; omega))))
 refine Zc [_] Y call13 Y rfl (r4_logF hX2 (by omega)) ?_
 rintro _ _ ⟨_, ⟨l, sl, hlog, hll, hlF, hRI, rfl⟩, rfl⟩
 obtain ⟨pl, capl, rfl, hlc, hgl⟩ := id hRI
 refine Za Y <| Z0 <| Zx <| Zq <| Zg <| Zm Y <| Zm Y <| Zv (p_len_slice underlying36 Y) <| Zc [_, _] Y call14 Y rfl (st_at pl capl l sl hRI hlog (by omega) l.length (Nat.le_refl _)) ?_
 rintro _ _ ⟨_, ⟨sp, mb, es, ck, lm, rfl, hm, hR, rfl⟩, rfl⟩
 refine Zm Y <| Zd Y rfl <| Zd Y rfl <| Za Y <| Za Y <| Z0 <| Zn [4, 5] ?_
 refine Zx <| Zq <| Zg <| Zm Y <| Zm Y <| Zv (p_len_slice underlying36 Y) <| Zc [_, _] Y call30 Y rfl (r4_at pl capl l sl hRI hlog (by omega) l.length (Nat.le_refl _)) ?_
 rintro _ _ ⟨_, ⟨rp, w, sv, rfl, hrw, rfl⟩, rfl⟩
 refine Zm Y <| Zd Y rfl <| Zd Y rfl <| Za Y <| Za Y <| Z0 <| Zx <| Zq <| Zg <| Zm Y <| Zm Y <| Za Y <| Za Y <| Z0 <| Zn [2, 3] ?_
 refine Zx <| at_ret ?_
 refine nx_end2 rfl results8 Y Y (by rw [List.take_length] at hR hrw; exact ⟨sp, mb, es, ck, lm, rp, w, sv, sl, l, hlog, hlF, rfl, hm, hR, hrw, rfl⟩)

theorem state_of {M : List Chunk} {v : Value} {xs : List (List Int)} (hX : SixIn M v xs) : Does Tryz.prog 26 #[v] [M] (fun r H' => ∃ p rp w sv s1 s2 sl l, LogOk l ∧ l.map RecM.cs = logF (xs.take (min xs.length 20)) ∧ r = .pointer (some ⟨rp, 0, none⟩) ∧ RowS 5 60 w (rowsOf l).length (rowCells (rowsOf l)) sv ∧ H' = [s1, s2, [(rp, .cells #[w, .int .i64 p] 31 (0, 0))], sv, sl, M]) := by
 refine spec_enter func26 rfl ntmps26 rfl ?_
 intro u R
 refine Zb [0] ?_
 refine Zq <| Zg <| Za Y <| Z0 <| Zx <| Zq <| Zg <| Zm Y <| Zc [_] Y call8 Y rfl (state_F hX) ?_
 rintro _ _ ⟨_, ⟨sp, mm, es, ck, lm, rp, w, sv, sl, l, hlog, hlF, rfl, hm, hR, hrw, rfl⟩, rfl⟩
 refine Zm Y <| Zd Y rfl <| Zd Y rfl <| Za Y <| Za Y <| Z0 <| Zx <| Zq <| Zg <| Zm Y <| Za Y <| Z0 <| Zx <| at_ret ?_
 refine nx_end1 rfl results26 Y (by exact ⟨(l.length : Int), rp, w, sv, [(sp, .cells #[.map (some mm), .int .i64 (l.length : Int)] 92 (0, 0))], [(mm, .map es ck)], sl, l, hlog, hlF, rfl, hrw, rfl⟩)

theorem whole_spec {M : List Chunk} {v : Value} {x : RP} (hv : RPIn M v x) : DoesR Tryz.prog 18 #[v] [] (.bool (decide (x.roots.length = 16 ∧ x.paths.length = x.rows.length))) := by
 obtain ⟨vr, vp, vt, rfl, ⟨qr, cr, rfl, _⟩, ⟨qp, cp, rfl, _⟩, ⟨qt, ct, rfl, _⟩⟩ := hv
 refine spec_enter func18 rfl ntmps18 rfl ?_
 intro u R
 refine Zb [0] ?_
 refine Zq <| Zg <| Ze (w_box Y (cs := #[_, _, _, _, _, _, _, _, _]) rfl) ?_
 rintro _ _ ⟨b1, rfl, rfl⟩
 refine Za Y <| Z0 <| Zx <| Zq <| Zg <| Zh 8 underlying53 rfl rfl sizeOf34 Y <| Zl isAgg34 Y ?_
 refine Zv (p_len_slice underlying34 Y) ?_
 first | refine op_v (p_eql_nat (n := 16) Y Y) ?_ | refine op_v (p_eql Y Y) ?_
 refine Zm Y ?_
 first | refine ops_split (t := 7) Y rfl (fun h1 => ?_) (fun h1 => ?_) | refine ops_split_bool (t := 7) Y rfl (fun h1 => ?_) (fun h1 => ?_)
 ·
  refine op_wg Y (p_fieldAddr0 (off := 7) underlying53 rfl rfl sizeOf51 Y) rfl rfl ?_
  refine op_rg Y (by repeat (first | exact Has.here _ | apply Has.there)) (p_load isAgg51 Y (by rfl)) rfl rfl ?_
  refine op_wg Y (p_len_slice underlying51 Y) rfl rfl ?_
  refine op_wg Y (p_fieldAddr0 (off := 6) underlying53 rfl rfl sizeOf29 Y) rfl rfl ?_
  refine op_rg Y (by repeat (first | exact Has.here _ | apply Has.there)) (p_load isAgg29 Y (by rfl)) rfl rfl ?_
  refine op_wg Y (p_len_slice underlying29 Y) rfl rfl ?_
  first | refine op_wg Y (p_eql_nat Y Y) rfl rfl ?_ | refine op_wg Y (p_eql Y Y) rfl rfl ?_
  refine Zv (p_pick_t Y Y) <| Za Y <| Z0 <| Zn [2] ?_
  refine Zx <| at_ret ?_
  refine nx_end1 rfl results18 Y (by exact ⟨by first | exact congrArg Value.bool (decide_eq_decide.2 (by omega)) | exact congrArg Value.bool (decide_eq_false (by omega)).symm, rfl⟩)
 ·
  refine op_skip Y rfl <| op_skip Y rfl <| op_skip Y rfl <| op_skip Y rfl <| op_skip Y rfl <| op_skip Y rfl <| op_skip Y rfl <| Zv (p_pick_f Y Y) <| Za Y <| Z0 <| Zn [2] ?_
  refine Zx <| at_ret ?_
  refine nx_end1 rfl results18 Y (by exact ⟨by first | exact congrArg Value.bool (decide_eq_decide.2 (by omega)) | exact congrArg Value.bool (decide_eq_false (by omega)).symm, rfl⟩)

end Go.Proofs.YtcbjoojdfelgaaaGreatDoor
