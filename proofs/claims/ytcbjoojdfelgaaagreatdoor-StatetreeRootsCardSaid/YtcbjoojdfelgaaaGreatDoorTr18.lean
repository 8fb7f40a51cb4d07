/- The law StatetreeColumns. -/
/- state, as a function of the integers. -/
import Derived.Test.YtcbjoojdfelgaaaGreatDoorEz
import Derived.Test.YtcbjoojdfelgaaaGreatDoorTr14
import Derived.Test.YtcbjoojdfelgaaaGreatDoorTr21
import Derived.Test.YtcbjoojdfelgaaaGreatDoorLd2
namespace Go.Proofs.YtcbjoojdfelgaaaGreatDoor
open Go.Proofs.Tryz
open Go Go.RowKit Gw
set_option linter.unusedVariables false
set_option linter.unusedSimpArgs false
set_option maxRecDepth 100000
attribute [local irreducible] Gw.At Gw.Nx Gw.Ops
theorem r4_same2 {M M' : List Chunk} {va vb : Value} {a b : List RowM} (ha : RowsU M va a) (hb : RowsU M' vb b) : DoesR Tryz.prog 9 #[va, vb] [M, M'] (.bool (decide (a = b))) := by
  refine does_re (r4_same (ha.mono (fun c hc => List.mem_append_left M' hc)) (hb.mono (fun c hc => List.mem_append_right M hc))) (by simp) ?_
  rintro r H' ⟨rfl, rfl⟩
  exact ⟨_, ⟨rfl, rfl⟩, by simp⟩
end Go.Proofs.YtcbjoojdfelgaaaGreatDoor


namespace Go.Proofs.YtcbjoojdfelgaaaGreatDoor
open Go.Proofs.Tryz
open Go Go.RowKit Gw
set_option linter.unusedVariables false
set_option linter.unusedSimpArgs false
set_option maxRecDepth 100000
attribute [local irreducible] Gw.At Gw.Nx Gw.Ops
theorem state_F {M : List Chunk} {v : Value} {xs : List (List Int)} (hX : SixIn M v xs) : Does Tryz.prog 8 #[v] [M] (fun r H' => ∃ sp mb es ck lm rp w sv sl l, LogOk l ∧ l.map RecM.cs = logF (xs.take (min xs.length 20)) ∧ r = .tuple #[.pointer (some ⟨sp, 0, none⟩), .pointer (some ⟨rp, 0, none⟩)] ∧ MapM K2 es ck lm ∧ MapR lm (rowsOf l) ∧ RowS 5 60 w (rowsOf l).length (rowCells (rowsOf l)) sv ∧
      H' = [[(sp, .cells #[.map (some mb), .int .i64 (l.length : Int)] 92 (0, 0))], [(mb, .map es ck)], [(rp, .cells #[w, .int .i64 (l.length : Int)] 31 (0, 0))], sv, sl, M]) := by
 have hml : maxLen = 9223372036854775807 := rfl
 obtain ⟨py, capy, rfl, hyl, hgy⟩ := id hX
 have hX2 := six_take hX (min xs.length 20) (Nat.min_le_left _ _)
 have hyk : (xs.take (min xs.length 20)).length ≤ 20 := by rw [List.length_take]; omega
 refine spec_enter func8 rfl ntmps8 rfl ?_
 intro u R
 refine Zb [0] ?_
 refine Zq <| Zg <| Za Y <| Za Y <| Z0 <| Zx <| Zq <| Zg <| Zm Y <| Zm Y <| Zv (p_len_slice underlying22 Y) ?_
 first | refine op_v (p_min_nat (n := 20) Y Y) ?_ | refine op_v (p_min_int Y Y) ?_
 (refine op_v (p_slice_slice_to underlying22 sizeOf80 Y Y ?_) ?_; (focus (first | omega | (simp; omega))))
 refine Zc [_] Y call13 Y rfl (r4_logF hX2 (by omega)) ?_
 rintro _ _ ⟨_, ⟨l, sl, hlog, hll, hlF, hRI, rfl⟩, rfl⟩
 obtain ⟨pl, capl, rfl, hlc, hgl⟩ := id hRI
 refine Za Y <| Z0 <| Zx <| Zq <| Zg <| Zm Y <| Zm Y <| Zv (p_len_slice underlying36 Y) <| Zc [_, _] Y call14 Y rfl (st_at pl capl l sl hRI hlog (by omega) l.length (Nat.le_refl _)) ?_
 rintro _ _ ⟨_, ⟨sp, mb, es, ck, lm, rfl, hm, hR, rfl⟩, rfl⟩
 refine Zm Y <| Zd Y rfl <| Zd Y rfl <| Za Y <| Za Y <| Z0 <| Zn [4, 5] ?_
 refine Zx <| Zq <| Zg <| Zm Y <| Zm Y <| Zv (p_len_slice underlying36 Y) <| Zc [_, _] Y call30 Y rfl (r4_at pl capl l sl hRI hlog (by omega) l.length (Nat.le_refl _)) ?_
 rintro _ _ ⟨_, ⟨rp, w, sv, rfl, hrw, rfl⟩, rfl⟩
 refine Zm Y <| Zd Y rfl <| Zd Y rfl <| Za Y <| Za Y <| Z0 <| Zx <| Zq <| Zg <| Zm Y <| Zm Y <| Za Y <| Za Y <| Z0 <| Zn [2, 3] ?_
 refine Zx <| at_ret ?_
 refine nx_end2 rfl results8 Y Y (by rw [List.take_length] at hR hrw; exact ⟨sp, mb, es, ck, lm, rp, w, sv, sl, l, hlog, hlF, rfl, hm, hR, hrw, rfl⟩)

end Go.Proofs.YtcbjoojdfelgaaaGreatDoor
