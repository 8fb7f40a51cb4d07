/- state, as a function of the integers. -/
/- few; the law StatetreeProofsMatchReference. -/
/- The law StatetreeProofsMatchReference. -/
/- A proof as an argument. -/
/- StatetreeProofsMatchReference as its card wants it. -/
import Derived.Test.YtjeepldonhgohaaGreatDoorEz
import Derived.Test.YtjeepldonhgohaaGreatDoorTr22
import Derived.Test.YtjeepldonhgohaaGreatDoorLd2
import Derived.Test.YtjeepldonhgohaaGreatDoorTkB
import Derived.Test.YtjeepldonhgohaaGreatDoorRt9
import Derived.Test.YtjeepldonhgohaaGreatDoorLd1

namespace Go.Proofs.YtjeepldonhgohaaGreatDoor
open Go.Proofs.Tryz
open Go Go.RowKit Gw
set_option linter.unusedVariables false
set_option linter.unusedSimpArgs false
set_option maxRecDepth 100000
attribute [local irreducible] Gw.At Gw.Nx Gw.Ops
theorem state_F {M : List Chunk} {v : Value} {xs : List (List Int)} (hX : SixIn M v xs) : Does Tryz.prog 8 #[v] [M] (fun r H' => ∃ sp mb es ck lm rp w sv sl l, LogOk l ∧ l.map RecM.cs = logF (xs.take (min xs.length 20)) ∧ r = .tuple #[.pointer (some ⟨sp, 0, none⟩), .pointer (some ⟨rp, 0, none⟩)] ∧ MapM K2 es ck lm ∧ MapR lm (rowsOf l) ∧ RowS 5 74 w (rowsOf l).length (rowCells (rowsOf l)) sv ∧
      H' = [[(sp, .cells #[.map (some mb), .int .i64 (l.length : Int)] 154 (0, 0))], [(mb, .map es ck)], [(rp, .cells #[w, .int .i64 (l.length : Int)] 121 (0, 0))], sv, sl, M]) := by
 have hml : maxLen = 9223372036854775807 := rfl
 obtain ⟨py, capy, rfl, hyl, hgy⟩ := id hX
 have hX2 := six_take hX (min xs.length 20) (Nat.min_le_left _ _)
 have hyk : (xs.take (min xs.length 20)).length ≤ 20 := by rw [List.length_take]; omega
 refine spec_enter func8 rfl ntmps8 rfl ?_
 intro u R
 refine Zb [0] ?_
 refine Zq <| Zg <| Za Y <| Za Y <| Z0 <| Zx <| Zq <| Zg <| Zm Y <| Zm Y <| Zv (p_len_slice underlying22 Y) <| Zv (p_min_nat (n := 20) Y Y) ?_
 (refine op_v (p_slice_slice_to underlying22 sizeOf92 Y Y ?_) ?_; (focus (first | omega | (simp; omega))))
 refine Zc [_] Y call32 Y rfl (r4_logF hX2 (by omega)) ?_
 rintro _ _ ⟨_, ⟨l, sl, hlog, hll, hlF, hRI, rfl⟩, rfl⟩
 obtain ⟨pl, capl, rfl, hlc, hgl⟩ := id hRI
 refine Za Y <| Z0 <| Zx <| Zq <| Zg <| Zm Y <| Zm Y <| Zv (p_len_slice underlying69 Y) <| Zc [_, _] Y call30 Y rfl (st_at pl capl l sl hRI hlog (by omega) l.length (Nat.le_refl _)) ?_
 rintro _ _ ⟨_, ⟨sp, mb, es, ck, lm, rfl, hm, hR, rfl⟩, rfl⟩
 refine Zm Y <| Zd Y rfl <| Zd Y rfl <| Za Y <| Za Y <| Z0 <| Zn [4, 5] ?_
 refine Zx <| Zq <| Zg <| Zm Y <| Zm Y <| Zv (p_len_slice underlying69 Y) <| Zc [_, _] Y call33 Y rfl (r4_at pl capl l sl hRI hlog (by omega) l.length (Nat.le_refl _)) ?_
 rintro _ _ ⟨_, ⟨rp, w, sv, rfl, hrw, rfl⟩, rfl⟩
 refine Zm Y <| Zd Y rfl <| Zd Y rfl <| Za Y <| Za Y <| Z0 <| Zx <| Zq <| Zg <| Zm Y <| Zm Y <| Za Y <| Za Y <| Z0 <| Zn [2, 3] ?_
 refine Zx <| at_ret ?_
 refine nx_end2 rfl results8 Y Y (by rw [List.take_length] at hR hrw; exact ⟨sp, mb, es, ck, lm, rp, w, sv, sl, l, hlog, hlF, rfl, hm, hR, hrw, rfl⟩)

theorem whole_spec {M : List Chunk} {v : Value} {x : RP} (hv : RPIn M v x) : DoesR Tryz.prog 19 #[v] [] (.bool (decide (x.roots.length = 16 ∧ x.paths.length = x.rows.length))) := by
 obtain ⟨vr, vp, vt, rfl, ⟨qr, cr, rfl, _⟩, ⟨qp, cp, rfl, _⟩, ⟨qt, ct, rfl, _⟩⟩ := hv
 refine spec_enter func19 rfl ntmps19 rfl ?_
 intro u R
 refine Zb [0] ?_
 refine Zq <| Zg <| Ze (w_box Y (cs := #[_, _, _, _, _, _, _, _, _]) rfl) ?_
 rintro _ _ ⟨b1, rfl, rfl⟩
 refine Za Y <| Z0 <| Zx <| Zq <| Zg <| Zh 8 underlying37 rfl rfl sizeOf35 Y <| Zl isAgg35 Y ?_
 refine Zv (p_len_slice underlying35 Y) <| Zv (p_eql_nat (n := 16) Y Y) <| Zm Y ?_
 refine ops_split (t := 7) Y rfl (fun h1 => ?_) (fun h1 => ?_)
 ·
  refine Yf 7 underlying37 rfl rfl sizeOf34 Y <| Yl isAgg34 Y ?_
  refine Yg (p_len_slice underlying34 Y) <| Yf 6 underlying37 rfl rfl sizeOf33 Y <| Yl isAgg33 Y ?_
  refine Yg (p_len_slice underlying33 Y) <| Yg (p_eql_nat Y Y) <| Zv (p_pick_t Y Y) <| Za Y <| Z0 <| Zn [2] ?_
  refine Zx <| at_ret ?_
  refine nx_end1 rfl results19 Y (by exact ⟨by exact congrArg Value.bool (decide_eq_decide.2 (by omega)), rfl⟩)
 ·
  refine op_skip Y rfl <| op_skip Y rfl <| op_skip Y rfl <| op_skip Y rfl <| op_skip Y rfl <| op_skip Y rfl <| op_skip Y rfl <| Zv (p_pick_f Y Y) <| Za Y <| Z0 <| Zn [2] ?_
  refine Zx <| at_ret ?_
  refine nx_end1 rfl results19 Y (by exact ⟨by exact congrArg Value.bool (decide_eq_false (by omega)).symm, rfl⟩)

end Go.Proofs.YtjeepldonhgohaaGreatDoor


namespace Go.Proofs.YtjeepldonhgohaaGreatDoor
open Go.Proofs.Tryz
open Go Go.RowKit Gw
set_option linter.unusedVariables false
set_option linter.unusedSimpArgs false
set_option maxRecDepth 100000
attribute [local irreducible] Gw.At Gw.Nx Gw.Ops
theorem RowsU.cut {M : List Chunk} {p : Option Addr} {n cap : Nat} {rs : List RowM} (h : RowsU M (.slice p n cap) rs) (k : Nat) (hk : k ≤ rs.length) : RowsU M (.slice p k cap) (rs.take k) := by
  obtain ⟨p', cap', e, hl, hg⟩ := h
  injection e with e1 e2 e3
  subst e1 e2 e3
  refine ⟨_, _, by rw [List.length_take, Nat.min_eq_left hk], by rw [List.length_take]; omega, fun i x hx => ?_⟩
  rw [List.getElem?_take] at hx
  split at hx
  · exact hg i x hx
  · cases hx
theorem rowsT_le2 (x : RP) : (rowsT x).length ≤ x.rows.length := by
  unfold rowsT
  split
  · exact List.length_filter_le _ _
  · exact Nat.zero_le _
def fewT (x : RP) : RP := { x with rows := x.rows.take (min x.rows.length 12), roots := x.roots.take (min x.roots.length 20), paths := (x.paths.take (min x.paths.length 12)).map fun l => l.take (min l.length 6) }
structure Small (x : RP) : Prop where
  nr : x.rows.length ≤ 2000
  nt : x.roots.length ≤ 1000000
  sr : ∀ s ∈ x.roots, s.length ≤ 140737488354000
  sp : ∀ l ∈ x.paths, l.length ≤ 1000000
theorem few_small {x : RP} (h : ∀ s ∈ x.roots, s.length ≤ 140737488354000) : Small (fewT x) := by
  refine ⟨?_, ?_, fun s hs => h s (List.mem_of_mem_take hs), fun l hl => ?_⟩
  · show (x.rows.take _).length ≤ 2000
    rw [List.length_take]; omega
  · show (x.roots.take _).length ≤ 1000000
    rw [List.length_take]; omega
  · obtain ⟨m, _, rfl⟩ := List.mem_map.1 hl
    rw [List.length_take]; omega
theorem damI_small {x : RP} {B : Int} (h : DamI x B) : Small x := ⟨h.nr, by have := h.nt; omega, fun s hs => by have := h.sr s hs; omega, h.sp⟩
theorem map_take_snoc {α β : Type} (f : α → β) {l : List α} {i : Nat} {x : α} (h : l[i]? = some x) : (l.take (i + 1)).map f = (l.take i).map f ++ [f x] := by rw [take_snoc h, List.map_append]; rfl
/-- One of two proofs, in a slice of both. -/
theorem two_rp {M : List Chunk} {A B : RP} {a1 a2 a3 b1 b2 b3 : Value} (hA : RPIn M (.agg #[.int .i64 A.tb, .int .i64 A.cl, .int .i64 A.lo, .int .i64 A.hi, .int .i64 A.ct, .int .i64 A.fi, a1, a2, a3]) A) (hB : RPIn M (.agg #[.int .i64 B.tb, .int .i64 B.cl, .int .i64 B.lo, .int .i64 B.hi, .int .i64 B.ct, .int .i64 B.fi, b1, b2, b3]) B) (sA : Small A) (sB : Small B) (i : Nat) (hi : i < 2) : ∃ (P : RP) (c1 c2 c3 : Value), ([.int .i64 A.tb, .int .i64 A.cl, .int .i64 A.lo, .int .i64 A.hi, .int .i64 A.ct, .int .i64 A.fi, a1, a2, a3, .int .i64 B.tb, .int .i64 B.cl, .int .i64 B.lo, .int .i64 B.hi, .int .i64 B.ct, .int .i64 B.fi, b1, b2, b3] : List Value).toArray.extract (0 + i * 9) (0 + i * 9 + 9) = #[.int .i64 P.tb, .int .i64 P.cl, .int .i64 P.lo, .int .i64 P.hi, .int .i64 P.ct, .int .i64 P.fi, c1, c2, c3] ∧ RPIn M (.agg #[.int .i64 P.tb, .int .i64 P.cl, .int .i64 P.lo, .int .i64 P.hi, .int .i64 P.ct, .int .i64 P.fi, c1, c2, c3]) P ∧ Small P := by
  match i, hi with
  | 0, _ => exact ⟨A, a1, a2, a3, rfl, hA, sA⟩
  | 1, _ => exact ⟨B, b1, b2, b3, rfl, hB, sB⟩
theorem three_str (a b c : Bs) (i : Nat) (hi : i < 3) : ∃ t : Bs, ([.string (str a), .string (str b), .string (str c)] : List Value).toArray[i]? = some (.string (str t)) := by
  match i, hi with
  | 0, _ => exact ⟨a, rfl⟩
  | 1, _ => exact ⟨b, rfl⟩
  | 2, _ => exact ⟨c, rfl⟩

theorem few10 {M : List Chunk} {v : Value} {x : RP} (hv : RPIn M v x) : Does Tryz.prog 20 #[v] [M] (fun r H' => ∃ mf, RPIn (mf ++ M) r (fewT x) ∧ H' = [mf, M]) := by
 have hml : maxLen = 9223372036854775807 := rfl
 obtain ⟨vr, vp, vt, rfl, hR, hP, hT⟩ := id hv
 obtain ⟨q1, c1, rfl, hl1, hg1⟩ := id hR
 obtain ⟨q2, c2, rfl, hl2, hg2⟩ := id hP
 obtain ⟨q3, c3, rfl, hl3, hg3⟩ := id hT
 refine spec_enter func20 rfl ntmps20 rfl ?_
 intro u R
 refine Zb [0] ?_
 refine Zq <| Zg <| Ze (w_box Y (cs := #[_, _, _, _, _, _, _, _, _]) rfl) ?_
 rintro _ _ ⟨pb, rfl, rfl⟩
 refine Ze (w_alloc zeroValue37 (cs := #[_, _, _, _, _, _, _, _, _]) rfl) ?_
 rintro _ _ ⟨rb, rfl, rfl⟩
 refine Z0 <| Zx <| Zq <| Zg <| Zh 6 underlying37 rfl rfl sizeOf33 Y <| Zl isAgg33 Y ?_
 refine Zh 6 underlying37 rfl rfl sizeOf33 Y <| Zl isAgg33 Y ?_
 refine Zv (p_len_slice underlying33 Y) <| Zv (p_min_nat (n := 12) Y Y) ?_
 (refine op_v (p_slice_slice_to underlying33 sizeOf74 Y Y ?_) ?_; (focus (first | omega | decide | (simp; done))))
 refine Zh 6 underlying37 rfl rfl sizeOf33 Y <| Ze (Zs sizeOf33 Y Y rfl (hc := by exact (rfl : _ = (#[.int .i64 x.tb, .int .i64 x.cl, .int .i64 x.lo, .int .i64 x.hi, .int .i64 x.ct, .int .i64 x.fi, .slice q1 (min x.rows.length 12) c1, .slice q2 x.paths.length c2, .slice q3 x.roots.length c3] : Array Value))) (hi := by first | omega | decide | (simp; done))) ?_
 rintro _ _ ⟨rfl, rfl⟩
 refine Z0 <| Zx <| Zq <| Zg <| Zh 8 underlying37 rfl rfl sizeOf35 Y <| Zl isAgg35 Y ?_
 refine Zh 8 underlying37 rfl rfl sizeOf35 Y <| Zl isAgg35 Y ?_
 refine Zv (p_len_slice underlying35 Y) <| Zv (p_min_nat (n := 20) Y Y) ?_
 (refine op_v (p_slice_slice_to underlying35 sizeOf9 Y Y ?_) ?_; (focus (first | omega | decide | (simp; done))))
 refine Zh 8 underlying37 rfl rfl sizeOf35 Y <| Ze (Zs sizeOf35 Y Y rfl (hc := by exact (rfl : _ = (#[.int .i64 x.tb, .int .i64 x.cl, .int .i64 x.lo, .int .i64 x.hi, .int .i64 x.ct, .int .i64 x.fi, .slice q1 (min x.rows.length 12) c1, .slice q2 x.paths.length c2, .slice q3 (min x.roots.length 20) c3] : Array Value))) (hi := by first | omega | decide | (simp; done))) ?_
 rintro _ _ ⟨rfl, rfl⟩
 refine Z0 <| Zn [1, 2] ?_
 refine Zx <| Zq <| Zg <| Za Y <| Z0 <| Zx <| Zq <| Zq <| Zg <| Za Y <| Z0 <| Zx <| at_block <| at_nil ?_
 refine Zb [3, 4, 1, 2] ?_
 refine at_loopB (e0 := [(3, _), (4, _)]) (H0 := _) (n := _) (fun m e H => ∃ (i : Nat) (vo : Value) (pvs : List Value) (so : List Chunk), m = x.paths.length - i ∧ (i ≤ x.paths.length ∧ i ≤ 12 ∧ RowS 1 35 vo i pvs so ∧ PathsS M pvs ((x.paths.take i).map fun l => l.take (min l.length 6))) ∧ e = [(3, vo), (4, .int .i64 (i : Int))] ∧ H = [so]) (by exact ⟨0, .slice none 0 0, [], [], rfl, ⟨Nat.zero_le _, Nat.zero_le _, rowS_nil 1 _, paths_nil _⟩, rfl, rfl⟩) (by repeat (first | exact Pull.nil _ | (apply Pull.cons; (focus (repeat (first | exact One.here _ _ | apply One.there)))))) ?_
 rintro _ _ _ ⟨i, vo, pvs, so, rfl, ⟨hi, hi2, hro, hPS⟩, rfl, rfl⟩
 obtain ⟨qo, co, rfl⟩ := hro.form
 refine Zq <| Zq <| Zg <| Zm Y <| Zh 7 underlying37 rfl rfl sizeOf34 Y <| Zl isAgg34 Y ?_
 refine Zv (p_len_slice underlying34 Y) <| Zv (p_lss_nat Y Y) <| Zm Y ?_
 refine ops_split (t := 26) Y rfl (fun hk1 => ?_) (fun hk1 => ?_)
 ·
  refine Zf Y Y <| Yg (p_lss_nat (n := 12) Y Y) <| Zv (p_pick_t Y Y) <| Z0 <| Zx ?_
  refine at_if Y (fun hk2 => ?_) (fun hk2 => ?_)
  ·
   obtain ⟨pf, hpf⟩ : ∃ r, x.paths[i]? = some r := ⟨_, List.getElem?_eq_getElem (by omega)⟩
   obtain ⟨qp, cp, hUp, g2, off2, cur2, T2, zz2, rfl, hm2, hex2⟩ := hg2 i pf hpf
   obtain ⟨_, _, ep, hlp, _⟩ := id hUp
   injection ep with ep1 ep2 ep3
   subst ep3
   refine at_skip <| Zx <| Zq <| at_block <| at_draw (n := 17) (0 :: 0 :: 2 :: 0 :: 14 :: 30 :: 0 :: 64 :: 0 :: 448 :: 960 :: 1984 :: 4032 :: 8190 :: 16382 :: 32767 :: 65535 :: []) 49152 (by kernel_rfl) (by kernel_rfl) rfl ?_
   refine Zi 1 0 rfl (p_move Y) <| Zi 3 1 rfl (p_fieldAddr0 (off := 7) underlying37 rfl rfl sizeOf34 Y) <| Zj 7 2 rfl isAgg34 Y ?_
   refine Zi 15 3 rfl (p_move Y) ?_
   (refine lin_v (D' := 31) 4 (p_indexAddr_nat1 underlying34 sizeOf35 Y Y ?_) ?_; (focus (first | omega | decide | (simp; done))))
   refine lin_rm (b := g2) (x := .cells cur2 T2 zz2) (D' := 63) 5 rfl rfl rfl (by simp [hm2]) (p_load isAgg35 Y (by exact hex2)) ?_
   refine Zi 127 6 rfl (p_fieldAddr0 (off := 7) underlying37 rfl rfl sizeOf34 Y) <| Zj 255 7 rfl isAgg34 Y ?_
   refine Zi 511 8 rfl (p_move Y) ?_
   (refine lin_v (D' := 1023) 9 (p_indexAddr_nat1 underlying34 sizeOf35 Y Y ?_) ?_; (focus (first | omega | decide | (simp; done))))
   refine lin_rm (b := g2) (x := .cells cur2 T2 zz2) (D' := 2047) 10 rfl rfl rfl (by simp [hm2]) (p_load isAgg35 Y (by exact hex2)) ?_
   refine Zi 4095 11 rfl (p_len_slice underlying35 Y) <| Zi 8191 12 rfl (p_min_nat (n := 6) Y Y) ?_
   (refine lin_v (D' := 16383) 13 (p_slice_slice_to underlying35 sizeOf9 Y Y ?_) ?_; (focus (first | omega | decide | (simp; done))))
   refine Zz (l := [14]) ?_
   refine Zy 16382 32767 [10, 7, 5, 2] [false, false, false, false] [] rfl Y rfl rfl rfl rfl (w_buildSlice (vs := [_]) (cs := [_]) underlying34 sizeOf35 zeroValue35 Y rfl rfl rfl rfl rfl) ?hk_2 (fun _ _ h => h.elim) ?hl_2
   case hk_2 =>
    rintro _ _ ⟨gb, rfl, rfl⟩
    refine ⟨keep_nil, ?_⟩
    refine Zz (l := [15]) ?_
    refine Zy 32767 65535 [] [] [] rfl Y rfl rfl rfl rfl (w_appendS (by_ := 24) (sz := 1) (news := [_]) underlying34 (rfl : Tryz.prog.info? 35 = some Tryz.t35) rfl rfl rfl rfl Y hro Y (by repeat (first | exact One.here _ _ | apply One.there)) (by repeat (first | exact Has.here _ | apply Has.there)) (by rfl) rfl (by simp [Value.oneCell', Value.cells]) (by decide) (by omega) (by omega)) ?hk_3 (fun _ _ h => h.elim) ?hl_3
    case hk_3 =>
     rintro _ _ ⟨sw5, hrw5, rfl⟩
     refine ⟨keep_nil, ?_⟩
     obtain ⟨gw5, cw5, rfl⟩ := hrw5.form
     refine Zi 131071 16 rfl (p_assign Y) <| lin_nil ?_
     refine Zn [1, 2, 3, 4] ?_
     refine nx_block_normal <| Zx <| Zg <| Zm Y <| Ya (n := 1) Y Y <| Za Y <| Z0 <| Zn [3, 4, 1, 2] ?_
     refine nx_againB (e' := [(3, _), (4, _)]) (m := _) (H' := _) (by exact ⟨i + 1, _, _, _, rfl, ⟨by omega, by omega, rowS_eq hrw5 rfl rfl, by rw [map_take_snoc _ hpf]; exact hPS.snoc (hUp.take (min pf.length 6) (Nat.min_le_left _ _)) (fun c h => h)⟩, rfl, rfl⟩)
    case hl_3 =>
     exact each_nil
   case hl_2 =>
    exact each_nil
  ·
   refine at_exit <| Zt <| Zt <| nx_block_exit <| Zx <| Zq <| Zg <| Zm Y <| Zh 7 underlying37 rfl rfl sizeOf34 Y <| Ze (Zs sizeOf34 Y Y rfl (hi := by first | omega | decide | (simp; done))) ?_
   rintro _ _ ⟨rfl, rfl⟩
   refine Z0 <| Zx <| Zq <| Zg <| Zo (by repeat (first | exact Has.here _ | apply Has.there)) (p_load_agg (cs := #[_, _, _, _, _, _, _, _, _]) isAgg37 sizeOf37 Y (by first | omega | decide | (simp; done)) (by rfl)) ?_
   refine Ze (w_store_agg sizeOf37 Y Y (by simp [Value.oneCell', Value.cells]) (by repeat (first | exact Upd.here _ | apply Upd.there)) (by rfl) (by first | rfl | (simp; done)) (by first | omega | decide | (simp; done)) (by exact free_zero _)) ?_
   rintro _ _ ⟨rfl, rfl⟩
   refine Z0 <| Zn [2] ?_
   refine Zx <| at_ret ?_
   refine nx_endc1 rfl results20 Y (by repeat (first | exact Has.here _ | apply Has.there)) (loadVar_agg isAgg37 sizeOf37 (by first | decide | exact Nat.le_refl _ | (simp; done) | (simp; omega)) (rfl)) (by
         have him : i = min x.paths.length 12 := by omega
         subst him
         refine ⟨so, ⟨_, _, _, rfl, (hR.cut _ (Nat.min_le_left _ _)).mono (fun c h => List.mem_append_right _ h), ?_, (hT.take _ (Nat.min_le_left _ _)).mono (fun c h => List.mem_append_right _ h)⟩, rfl⟩
         exact pathsU_of (rowS_eq hro (by show _ = (List.map _ _).length; rw [List.length_map, List.length_take]; omega) rfl) hPS (by show (List.map _ _).length ≤ _; rw [List.length_map, List.length_take]; omega))
 ·
  refine op_skip Y rfl <| op_skip Y rfl <| Zv (p_pick_f Y Y) <| Z0 <| Zx <| at_else Y <| at_exit <| Zt <| Zt <| nx_block_exit <| Zx <| Zq <| Zg <| Zm Y <| Zh 7 underlying37 rfl rfl sizeOf34 Y <| Ze (Zs sizeOf34 Y Y rfl (hi := by first | omega | decide | (simp; done))) ?_
  rintro _ _ ⟨rfl, rfl⟩
  refine Z0 <| Zx <| Zq <| Zg <| Zo (by repeat (first | exact Has.here _ | apply Has.there)) (p_load_agg (cs := #[_, _, _, _, _, _, _, _, _]) isAgg37 sizeOf37 Y (by first | omega | decide | (simp; done)) (by rfl)) ?_
  refine Ze (w_store_agg sizeOf37 Y Y (by simp [Value.oneCell', Value.cells]) (by repeat (first | exact Upd.here _ | apply Upd.there)) (by rfl) (by first | rfl | (simp; done)) (by first | omega | decide | (simp; done)) (by exact free_zero _)) ?_
  rintro _ _ ⟨rfl, rfl⟩
  refine Z0 <| Zn [2] ?_
  refine Zx <| at_ret ?_
  refine nx_endc1 rfl results20 Y (by repeat (first | exact Has.here _ | apply Has.there)) (loadVar_agg isAgg37 sizeOf37 (by first | decide | exact Nat.le_refl _ | (simp; done) | (simp; omega)) (rfl)) (by
        have him : i = min x.paths.length 12 := by omega
        subst him
        refine ⟨so, ⟨_, _, _, rfl, (hR.cut _ (Nat.min_le_left _ _)).mono (fun c h => List.mem_append_right _ h), ?_, (hT.take _ (Nat.min_le_left _ _)).mono (fun c h => List.mem_append_right _ h)⟩, rfl⟩
        exact pathsU_of (rowS_eq hro (by show _ = (List.map _ _).length; rw [List.length_map, List.length_take]; omega) rfl) hPS (by show (List.map _ _).length ≤ _; rw [List.length_map, List.length_take]; omega))

end Go.Proofs.YtjeepldonhgohaaGreatDoor

namespace Go.Proofs.YtjeepldonhgohaaGreatDoor
open Go.Proofs.Tryz
open Go Go.RowKit Gw
set_option linter.unusedVariables false
set_option linter.unusedSimpArgs false
set_option maxRecDepth 100000
attribute [local irreducible] Gw.At Gw.Nx Gw.Ops
set_option maxHeartbeats 1000000 in
theorem pmatch_law {M : List Chunk} {v vw : Value} {X : RP} (hW : RPIn M vw X) (hXs : ∀ s ∈ X.roots, s.length ≤ 140737488354000) (root : Bs) {xs : List (List Int)} (hX : SixIn M v xs) (a b c d e9 f9 g9 : Int) (ha1 : -9223372036854775808 ≤ a) (ha2 : a ≤ 9223372036854775807) (hb1 : -9223372036854775808 ≤ b) (hb2 : b ≤ 9223372036854775807) (hc1 : -9223372036854775808 ≤ c) (hc2 : c ≤ 9223372036854775807) (hd1 : -9223372036854775808 ≤ d) (hd2 : d ≤ 9223372036854775807) (he91 : -9223372036854775808 ≤ e9) (he92 : e9 ≤ 9223372036854775807) (hf91 : -9223372036854775808 ≤ f9) (hf92 : f9 ≤ 9223372036854775807) (hg91 : -9223372036854775808 ≤ g9) (hg92 : g9 ≤ 9223372036854775807) (Tg : TypeId) (zg : Nat × Nat) : DoesR Tryz.prog 4 #[vw, .string (str root), v, .agg #[.int .i64 a, .int .i64 b, .int .i64 c, .int .i64 d], .agg #[.int .i64 e9, .int .i64 f9, .int .i64 g9]] [[(0, .cells (kTab.map u32v).toArray Tg zg)], M] (.bool true) := by
 have hml : maxLen = 9223372036854775807 := rfl
 have hp1 := pickN_lt a 4 (by decide)
 have hp2 := pickN_lt b 4 (by decide)
 have hp3 := pickN_lt c 40 (by decide)
 have hp4 := pickN_lt d 20 (by decide)
 obtain ⟨rw, pw, tw, rfl, hRw, hPw, hTw⟩ := id hW
 obtain ⟨qrw, crw, rfl, hlrw, hgrw⟩ := id hRw
 obtain ⟨qpw, cpw, rfl, hlpw, hgpw⟩ := id hPw
 obtain ⟨qtw, ctw, rfl, hltw, hgtw⟩ := id hTw
 refine spec_enter func4 rfl ntmps4 rfl ?_
 intro u R
 refine Zb [0, 1, 2, 3, 4] ?_
 refine Zq <| Zg <| Ze (w_box Y (cs := #[_, _, _, _, _, _, _, _, _]) rfl) ?_
 rintro _ _ ⟨bW, rfl, rfl⟩
 refine Ze (w_box Y (cs := #[_, _, _, _]) rfl) ?_
 rintro _ _ ⟨bq, rfl, rfl⟩
 refine Ze (w_box Y (cs := #[_, _, _]) rfl) ?_
 rintro _ _ ⟨bw, rfl, rfl⟩
 refine Za Y <| Z0 <| Zx <| Zq <| Zg <| Zr [] Y call7 Y rfl (sane10 Tg zg) ?_
 rintro _ _ ⟨rfl, rfl⟩
 refine Za Y <| Z0 <| Zx <| Zq <| Zg <| Zm Y <| Zc [_] Y call8 Y rfl (state_F hX) ?_
 rintro _ _ ⟨_, ⟨sp, mm, es, ck, lm, rp, w, sv, sl, l, hlog, hlF, rfl, hm, hR, hrw, rfl⟩, rfl⟩
 obtain ⟨hs, hn⟩ := hlog.all
 have hok := hlog.rowsOk l.length (Nat.le_refl _)
 rw [List.take_length] at hok
 have hrF := rowsC_of l
 obtain ⟨rs, hrs⟩ : ∃ rs, rs = rowsOf l := ⟨_, rfl⟩
 rw [← hrs] at hR hs hn hok hrw hrF
 have hst : StIs (.pointer (some ⟨sp, 0, none⟩)) (l.length : Int) rs [(sp, .cells #[.map (some mm), .int .i64 (l.length : Int)] 154 (0, 0)), (mm, .map es ck)] := ⟨sp, mm, es, ck, lm, rfl, hm, hR, hs, hn, rfl⟩
 refine Zm Y <| Zd Y rfl <| Zd Y rfl <| Za Y <| Za Y <| Z0 <| Zn [1, 5, 8, 9, 11, 12] ?_
 refine Zx <| Zq <| at_join (s1 := [(sp, _)]) (s2 := [(mm, _)]) (by repeat (first | exact One.here _ _ | apply One.there)) (by repeat (first | exact One.here _ _ | apply One.there)) ?_
 refine Zg <| Zo (by repeat (first | exact Has.here _ | apply Has.there)) (p_load_agg (cs := #[_, _, _, _]) isAgg23 sizeOf23 Y (by first | decide | exact Nat.le_refl _ | (simp; done) | (simp; omega)) (by rfl)) ?_
 refine Zr [_] Y call11 Y rfl (asked_spec a b c d ha1 ha2 hb1 hb2 hc1 hc2 hd1 hd2) ?_
 rintro _ _ ⟨rfl, rfl⟩
 refine Ze (w_alloc zeroValue23 (cs := #[_, _, _, _]) rfl) ?_
 rintro _ _ ⟨by_, rfl, rfl⟩
 refine Ze (w_store_agg sizeOf23 Y Y (by (simp [Value.oneCell']; done)) (by repeat (first | exact Upd.here _ | apply Upd.there)) (by exact (rfl : _ = (#[.int .i64 (pickN a 4 : Int), .int .i64 (pickN b 4 : Int), .int .i64 ((pickN c 40 : Int) - 20), .int .i64 ((pickN c 40 : Int) - 20 + (pickN d 20 : Int))] : Array Value))) (by first | rfl | (simp; done)) (by first | decide | exact Nat.le_refl _ | (simp; done) | (simp; omega)) (by exact free_zero _)) ?_
 rintro _ _ ⟨rfl, rfl⟩
 refine Z0 <| Zx <| Zq <| Zg <| Zm Y ?_
 (refine op_v (p_indexAddr_arr0 (j := 0) underlying23 sizeOf3 Y Y ?_) ?_; (focus (first | omega | decide | (simp; done))))
 refine Zl isAgg3 Y ?_
 (refine op_v (p_indexAddr_arr0 (j := 1) underlying23 sizeOf3 Y Y ?_) ?_; (focus (first | omega | decide | (simp; done))))
 refine Zl isAgg3 Y ?_
 (refine op_v (p_indexAddr_arr0 (j := 2) underlying23 sizeOf3 Y Y ?_) ?_; (focus (first | omega | decide | (simp; done))))
 refine Zl isAgg3 Y ?_
 (refine op_v (p_indexAddr_arr0 (j := 3) underlying23 sizeOf3 Y Y ?_) ?_; (focus (first | omega | decide | (simp; done))))
 refine Zl isAgg3 Y ?_
 refine Zc [_, _, _, _, _] Y call12 Y rfl (prove_spec _ _ rs _ hst hs hn hok (pickN a 4) (pickN b 4) (by omega) (by omega) ((pickN c 40 : Int) - 20) ((pickN c 40 : Int) - 20 + (pickN d 20 : Int)) (by omega) Tg zg) ?_
 rintro _ _ ⟨_, ⟨va, ma, rfl, hG, rfl⟩, rfl⟩
 obtain ⟨rg, pg, tg, rfl, hRg, hPg, hTg⟩ := id hG
 obtain ⟨qrg, crg, rfl, hlrg, hgrg⟩ := id hRg
 obtain ⟨qpg, cpg, rfl, hlpg, hgpg⟩ := id hPg
 obtain ⟨qtg, ctg, rfl, hltg, hgtg⟩ := id hTg
 have hIg := prove_damI hs hn hok (pickN a 4) (pickN b 4) ((pickN c 40 : Int) - 20) ((pickN c 40 : Int) - 20 + (pickN d 20 : Int)) (by omega) (by omega) (by omega)
 refine Zm Y <| Zd Y rfl <| Zd Y rfl <| Ze (w_alloc zeroValue37 (cs := #[_, _, _, _, _, _, _, _, _]) rfl) ?_
 rintro _ _ ⟨bg, rfl, rfl⟩
 refine Ze (w_store_agg sizeOf37 Y Y (by (simp [Value.oneCell']; done)) (by repeat (first | exact Upd.here _ | apply Upd.there)) (by exact (rfl : _ = (#[_, _, _, _, _, _, _, _, _] : Array Value))) (by first | rfl | (simp; done)) (by first | omega | decide | (simp; done)) (by exact free_zero _)) ?_
 rintro _ _ ⟨rfl, rfl⟩
 refine Za Y <| Z0 <| Zn [1, 5, 9, 11, 12, 15, 16] ?_
 refine Zx <| Zq <| Zq <| Zg <| Zm Y <| Zv (p_neq_nat (n := 0) Y Y) <| Zm Y ?_
 refine ops_split (t := 50) Y rfl (fun k1 => ?_) (fun k1 => ?_)
 ·
  exact absurd rfl k1
 ·
  refine op_rg Y (by repeat (first | exact Has.here _ | apply Has.there)) (p_load_agg (cs := #[_, _, _, _, _, _, _, _, _]) isAgg37 sizeOf37 Y (by first | decide | exact Nat.le_refl _ | (simp; done) | (simp; omega)) (by rfl)) rfl rfl ?_
  refine Zr [_] Y call19 Y rfl (whole_spec hG) ?_
  rintro _ _ ⟨rfl, rfl⟩
  rw [decide_eq_true (show (proveT rs (pickN a 4) (pickN b 4) ((pickN c 40 : Int) - 20) ((pickN c 40 : Int) - 20 + (pickN d 20 : Int))).roots.length = 16 ∧ (proveT rs (pickN a 4) (pickN b 4) ((pickN c 40 : Int) - 20) ((pickN c 40 : Int) - 20 + (pickN d 20 : Int))).paths.length = (proveT rs (pickN a 4) (pickN b 4) ((pickN c 40 : Int) - 20) ((pickN c 40 : Int) - 20 + (pickN d 20 : Int))).rows.length from ⟨hIg.nt, hIg.np⟩)]
  refine Yg (p_not Y) <| Zv (p_pick_f Y Y) <| Z0 <| Zx ?_
  refine at_if_bool Y (fun k2 => ?_) (fun k2 => ?_)
  ·
   cases k2
  ·
   refine at_skip <| Zx <| Zq <| Zg <| Zo (by repeat (first | exact Has.here _ | apply Has.there)) (p_load_agg (cs := #[_, _, _, _, _, _, _, _, _]) isAgg37 sizeOf37 Y (by first | omega | decide | (simp; done)) (by rfl)) ?_
   refine Zc [_] Y call20 Y rfl (few10 hW) ?_
   rintro _ _ ⟨_, ⟨mf, hA, rfl⟩, rfl⟩
   have hSa := few_small hXs
   obtain ⟨A9, hA9⟩ : ∃ A9, A9 = fewT X := ⟨_, rfl⟩
   rw [← hA9] at hA hSa
   obtain ⟨ra, pa, ta, rfl, hRa, hPa, hTa⟩ := id hA
   obtain ⟨qra, cra, rfl, hlra, hgra⟩ := id hRa
   obtain ⟨qpa, cpa, rfl, hlpa, hgpa⟩ := id hPa
   obtain ⟨qta, cta, rfl, hlta, hgta⟩ := id hTa
   refine Ze (w_alloc zeroValue37 (cs := #[_, _, _, _, _, _, _, _, _]) rfl) ?_
   rintro _ _ ⟨ba, rfl, rfl⟩
   refine Ze (w_store_agg sizeOf37 Y Y (by (simp [Value.oneCell']; done)) (by repeat (first | exact Upd.here _ | apply Upd.there)) (by exact (rfl : _ = (#[_, _, _, _, _, _, _, _, _] : Array Value))) (by first | rfl | (simp; done)) (by first | omega | decide | (simp; done)) (by exact free_zero _)) ?_
   rintro _ _ ⟨rfl, rfl⟩
   refine Z0 <| Zx <| Zq <| Zg <| Zo (by repeat (first | exact Has.here _ | apply Has.there)) (p_load_agg (cs := #[_, _, _, _, _, _, _, _, _]) isAgg37 sizeOf37 Y (by first | omega | decide | (simp; done)) (by rfl)) ?_
   refine Zo (by repeat (first | exact Has.here _ | apply Has.there)) (p_load_agg (cs := #[_, _, _]) isAgg47 sizeOf47 Y (by first | omega | decide | (simp; done)) (by rfl)) ?_
   refine Zc [_, _] Y call21 Y rfl (damaged_spec hG hIg (by decide) e9 f9 g9 he91 he92 hf91 hf92 hg91 hg92 Tg zg) ?_
   rintro _ _ ⟨_, ⟨md, hB, hsub, rfl⟩, rfl⟩
   have hIb := damI_step hIg e9 f9 g9
   have hSb := damI_small hIb
   obtain ⟨B9, hB9⟩ : ∃ B9, B9 = damT (proveT rs (pickN a 4) (pickN b 4) ((pickN c 40 : Int) - 20) ((pickN c 40 : Int) - 20 + (pickN d 20 : Int))) e9 f9 g9 := ⟨_, rfl⟩
   rw [← hB9] at hB hSb
   obtain ⟨rb, pb, tb, rfl, hRb, hPb, hTb⟩ := id hB
   obtain ⟨qrb, crb, rfl, hlrb, hgrb⟩ := id hRb
   obtain ⟨qpb, cpb, rfl, hlpb, hgpb⟩ := id hPb
   obtain ⟨qtb, ctb, rfl, hltb, hgtb⟩ := id hTb
   refine Ze (w_alloc zeroValue37 (cs := #[_, _, _, _, _, _, _, _, _]) rfl) ?_
   rintro _ _ ⟨bb, rfl, rfl⟩
   refine Ze (w_store_agg sizeOf37 Y Y (by (simp [Value.oneCell']; done)) (by repeat (first | exact Upd.here _ | apply Upd.there)) (by exact (rfl : _ = (#[_, _, _, _, _, _, _, _, _] : Array Value))) (by first | rfl | (simp; done)) (by first | omega | decide | (simp; done)) (by exact free_zero _)) ?_
   rintro _ _ ⟨rfl, rfl⟩
   refine Z0 <| Zn [1, 11, 12, 15, 17, 18] ?_
   refine Zx <| Zq <| Zq <| Zg <| Zo (by repeat (first | exact Has.here _ | apply Has.there)) (p_load_agg (cs := #[_, _, _, _, _, _, _, _, _]) isAgg37 sizeOf37 Y (by first | omega | decide | (simp; done) | (simp; omega)) (by rfl)) ?_
   refine Zo (by repeat (first | exact Has.here _ | apply Has.there)) (p_load_agg (cs := #[_, _, _, _, _, _, _, _, _]) isAgg37 sizeOf37 Y (by first | omega | decide | (simp; done) | (simp; omega)) (by rfl)) ?_
   refine Ze (w_buildSlice (vs := [_, _]) (cs := [_, _, _, _, _, _, _, _, _, _, _, _, _, _, _, _, _, _]) underlying51 sizeOf37 zeroValue37 Y rfl rfl rfl rfl rfl) ?_
   rintro _ _ ⟨gl, rfl, rfl⟩
   refine Zv (p_len_slice underlying51 Y) <| Zm Y <| Z0 <| Zx <| at_block <| at_join (s1 := mf) (s2 := M) (by repeat (first | exact One.here _ _ | apply One.there)) (by repeat (first | exact One.here _ _ | apply One.there)) ?_
   refine at_join (s1 := md) (s2 := mf ++ M) (by repeat (first | exact One.here _ _ | apply One.there)) (by repeat (first | exact One.here _ _ | apply One.there)) ?_
   obtain ⟨MM, hMM⟩ : ∃ MM, MM = md ++ (mf ++ M) := ⟨_, rfl⟩
   have hA2 := hA.mono (M' := MM) (fun c h => by rw [hMM]; exact List.mem_append_right _ h)
   have hB2 := hB.mono (M' := MM) (fun c h => by rw [hMM]; exact List.mem_append_left _ h)
   have hG2 := hG.mono (M' := MM) (fun c h => by rw [hMM]; exact List.mem_append_left _ (hsub c h))
   rw [← hMM]
   refine Zb [64, 1, 11, 12, 15, 62, 63] ?_
   refine at_loopB (e0 := [(64, _)]) (H0 := _) (n := _) (fun m e H => ∃ (i : Nat), m = 2 - i ∧ (i ≤ 2) ∧ e = [(64, .int .i64 (i : Int))] ∧ H = []) (by exact ⟨0, rfl, Nat.zero_le _, rfl, rfl⟩) (by repeat (first | exact Pull.nil _ | (apply Pull.cons; (focus (repeat (first | exact One.here _ _ | apply One.there)))))) ?_
   rintro _ _ _ ⟨i, rfl, hi, rfl, rfl⟩
   refine Zq <| Zg <| Zv (p_lss_nat Y Y) <| Z0 <| Zx <| Zq ?_
   refine at_if Y (fun hlt => ?_) (fun hlt => ?_)
   ·
    obtain ⟨P, u1, u2, u3, hex, hP9, hSp⟩ := two_rp hA2 hB2 hSa hSb i hlt
    obtain ⟨r9, p9, t9, e9x, hR9, hPp9, hT9⟩ := id hP9
    have e9y := Array.toList_inj.2 (Value.agg.inj e9x)
    simp only [List.cons.injEq, true_and, and_true] at e9y
    obtain ⟨rfl, rfl, rfl⟩ := e9y
    obtain ⟨qr9, cr9, rfl, hlr9, hgr9⟩ := id hR9
    obtain ⟨qp9, cp9, rfl, hlp9, hgp9⟩ := id hPp9
    obtain ⟨qt9, ct9, rfl, hlt9, hgt9⟩ := id hT9
    refine at_skip <| Zx <| Zq <| at_block <| Zq <| Zg ?_
    (refine op_v (p_indexAddr_nat underlying51 sizeOf37 Y Y ?_) ?_; (focus (first | omega | decide | (simp; done) | (simp; omega))))
    refine Zo (by repeat (first | exact Has.here _ | apply Has.there)) (p_load_agg (cs := #[.int .i64 P.tb, .int .i64 P.cl, .int .i64 P.lo, .int .i64 P.hi, .int .i64 P.ct, .int .i64 P.fi, .slice qr9 P.rows.length cr9, .slice qp9 P.paths.length cp9, .slice qt9 P.roots.length ct9]) isAgg37 sizeOf37 Y (by first | omega | (simp; omega)) hex) ?_
    refine Ze (w_alloc zeroValue37 (cs := #[_, _, _, _, _, _, _, _, _]) rfl) ?_
    rintro _ _ ⟨bp, rfl, rfl⟩
    refine Ze (w_store_agg sizeOf37 Y Y (by (simp [Value.oneCell']; done)) (by repeat (first | exact Upd.here _ | apply Upd.there)) (by exact (rfl : _ = (#[_, _, _, _, _, _, _, _, _] : Array Value))) (by first | rfl | (simp; done)) (by first | omega | decide | (simp; done) | (simp; omega)) (by exact free_zero _)) ?_
    rintro _ _ ⟨rfl, rfl⟩
    refine Z0 <| Zx <| Zq <| Zq <| Zg <| Zm Y <| Zh 8 underlying37 rfl rfl sizeOf35 Y <| Zl isAgg35 Y ?_
    refine Zr [_] Y call22 Y rfl (root_spec hT9 (by have := hSp.nt; omega) hSp.sr Tg zg) ?_
    rintro _ _ ⟨rfl, rfl⟩
    refine Zm Y <| Zr [_] Y call9 Y rfl (root_st _ _ rs _ hst hs hn hok Tg zg) ?_
    rintro _ _ ⟨rfl, rfl⟩
    refine Ze (w_buildSlice (vs := [_, _, _]) (cs := [_, _, _]) underlying35 sizeOf9 zeroValue9 Y rfl rfl rfl rfl rfl) ?_
    rintro _ _ ⟨gs, rfl, rfl⟩
    refine Zv (p_len_slice underlying35 Y) <| Zm Y <| Z0 <| Zn [1, 11, 12, 15, 20, 62, 63, 64, 74, 75, 76] ?_
    refine Zx <| at_block <| Zb [76, 1, 11, 12, 15, 20, 62, 63, 64, 74, 75] ?_
    refine at_loopB (e0 := [(76, _)]) (H0 := _) (n := _) (fun m e H => ∃ (j : Nat), m = 3 - j ∧ (j ≤ 3) ∧ e = [(76, .int .i64 (j : Int))] ∧ H = []) (by exact ⟨0, rfl, Nat.zero_le _, rfl, rfl⟩) (by repeat (first | exact Pull.nil _ | (apply Pull.cons; (focus (repeat (first | exact One.here _ _ | apply One.there)))))) ?_
    rintro _ _ _ ⟨j, rfl, hj, rfl, rfl⟩
    refine Zq <| Zg <| Zv (p_lss_nat Y Y) <| Z0 <| Zx <| Zq ?_
    refine at_if Y (fun hjt => ?_) (fun hjt => ?_)
    ·
     obtain ⟨tj, htj⟩ := three_str root (rootT P.roots) (rootS rs) j hjt
     refine at_skip <| Zx <| Zq <| at_block <| Zq <| Zg ?_
     (refine op_v (p_indexAddr_nat0 underlying35 sizeOf9 Y Y ?_) ?_; (focus (first | omega | decide | (simp; done))))
     refine Zl isAgg9 Y (hv := by exact htj) ?_
     refine Za Y <| Z0 <| Zx <| Zq <| at_draw (n := 7) (0 :: 0 :: 3 :: 0 :: 0 :: 31 :: 63 :: []) 36 (by kernel_rfl) (by kernel_rfl) rfl ?_
     refine Zi 1 0 rfl (p_move Y) <| lin_r (D' := 3) 1 rfl rfl rfl (by repeat (first | exact Has.here _ | apply Has.there)) (p_load_agg (cs := #[_, _, _, _, _, _, _, _, _]) isAgg37 sizeOf37 Y (by first | omega | decide | (simp; done)) (by rfl)) ?_
     refine Zi 11 3 rfl (p_move Y) <| lin_r (D' := 27) 4 rfl rfl rfl (by repeat (first | exact Has.here _ | apply Has.there)) (p_load_agg (cs := #[_, _, _, _, _, _, _, _, _]) isAgg37 sizeOf37 Y (by first | omega | decide | (simp; done)) (by rfl)) ?_
     refine Zz (l := [2]) ?_
     refine Zy 3 31 [4, 1] [true, false] [(4, (_, _))] rfl Y rfl rfl rfl rfl (Zu [_, _] Y call23 Y rfl (verify_proof hP9 hSp.sr hSp.sp tj Tg zg)) ?hk_3 (fun _ _ h => h.elim) ?hl_3
     case hk_3 =>
      rintro _ _ ⟨rfl, rfl⟩
      refine ⟨Zk (keep_nil), ?_⟩
      refine Zz (l := [5]) ?_
      refine Zy 31 63 [4] [false] [] rfl Y rfl rfl rfl rfl (Zu [_, _] Y call24 Y rfl (r10_verify hP9 hSp.sr hSp.nt hSp.sp tj)) ?hk_4 (fun _ _ h => h.elim) ?hl_4
      case hk_4 =>
       rintro _ _ ⟨rfl, rfl⟩
       refine ⟨keep_nil, ?_⟩
       refine Zi 127 6 rfl (p_neq_bool underlying4 Y Y) <| lin_nil ?_
       refine Zx ?_
       refine at_if Y (fun k3 => ?_) (fun k3 => ?_)
       ·
        exact absurd rfl k3
       ·
        refine at_skip <| nx_block_normal <| Zx <| Zg <| Ya (n := 1) Y Y <| Zm Y <| Z0 <| Zn [76, 1, 11, 12, 15, 20, 62, 63, 64, 74, 75] ?_
        refine nx_againB (e' := [(76, _)]) (m := _) (H' := _) (by exact ⟨j + 1, rfl, by omega, rfl, rfl⟩)
      case hl_4 =>
       exact each_nil
     case hl_3 =>
      exact each_nil
    ·
     refine at_exit <| Zt <| Zt <| nx_block_exit <| Zx <| Zq <| Zg <| Zo (by repeat (first | exact Has.here _ | apply Has.there)) (p_load_agg (cs := #[_, _, _, _, _, _, _, _, _]) isAgg37 sizeOf37 Y (by first | omega | decide | (simp; done)) (by rfl)) ?_
     refine Zc [_] Y call14 Y rfl (rows_spec hP9) ?_
     rintro _ _ ⟨_, ⟨vx, sx, rfl, hx, rfl⟩, rfl⟩
     have hrl := rowsT_le2 P
     have hnr := hSp.nr
     obtain ⟨qx, cx, rfl⟩ := hx.form
     have hUx := rowsU_row hx (by omega)
     refine Zm Y <| Zd Y rfl <| Zd Y rfl <| Za Y <| Za Y <| Z0 <| Zx <| Zq <| Zg <| Zo (by repeat (first | exact Has.here _ | apply Has.there)) (p_load_agg (cs := #[_, _, _, _, _, _, _, _, _]) isAgg37 sizeOf37 Y (by first | omega | decide | (simp; done)) (by rfl)) ?_
     refine Zc [_] Y call15 Y rfl (r10_rows hP9) ?_
     rintro _ _ ⟨_, ⟨vy, sy, rfl, hy, rfl⟩, rfl⟩
     obtain ⟨qy, cy, rfl⟩ := hy.form
     have hUy := rowsU_row hy (by omega)
     refine Zm Y <| Zd Y rfl <| Zd Y rfl <| Za Y <| Za Y <| Z0 <| Zn [1, 11, 12, 15, 20, 23, 24, 25, 26, 62, 63, 64] ?_
     refine Zx <| Zq <| at_draw (n := 18) (0 :: 0 :: 3 :: 7 :: 15 :: 15 :: 63 :: 127 :: 255 :: 511 :: 1023 :: 1023 :: 4095 :: 1023 :: 1023 :: 32767 :: 65535 :: 131071 :: []) 36928 (by kernel_rfl) (by kernel_rfl) rfl ?_
     refine Zi 1 0 rfl (p_move Y) <| Zi 3 1 rfl (p_move Y) <| Zi 7 2 rfl (p_neq_bool underlying4 Y Y) <| Zi 15 3 rfl (p_move Y) ?_
     refine lin_split (t := 101) Y (fun k4 => ?_) (fun k4 => ?_)
     ·
      first | rw [decide_eq_true k4] | rw [k4] | skip
      exact absurd rfl k4
     ·
      first | rw [decide_eq_false k4] | rw [k4] | skip
      refine lin_wg (D' := 31) 4 Y rfl rfl rfl (p_move Y) ?_
      refine lin_wg (D' := 63) 5 Y rfl rfl rfl (p_move Y) ?_
      refine Zz (l := [6]) ?_
      refine Zy 63 127 [] [] [] rfl Y rfl rfl rfl rfl (Zu [_, _] Y call17 Y rfl (r4_same2 hUx hUy)) ?hk_6 (fun _ _ h => h.elim) ?hl_6
      case hk_6 =>
       rintro _ _ ⟨rfl, rfl⟩
       refine ⟨keep_nil, ?_⟩
       rw [decide_eq_true (show rowsT P = rowsT P from rfl)]
       refine lin_wg (D' := 255) 7 Y rfl rfl rfl (p_not Y) ?_
       refine Zi 511 8 rfl (p_pick_f Y Y) <| Zi 1023 9 rfl (p_move Y) ?_
       refine lin_split_bool (t := 107) Y (fun k5 => ?_) (fun k5 => ?_)
       ·
        first | rw [decide_eq_true k5] | rw [k5] | skip
        (cases k5; done)
       ·
        first | rw [decide_eq_false k5] | rw [k5] | skip
        refine lin_rg (D' := 2047) 10 Y rfl rfl rfl (by repeat (first | exact Has.here _ | apply Has.there)) (p_load_agg (cs := #[_, _, _, _, _, _, _, _, _]) isAgg37 sizeOf37 Y (by first | omega | decide | (simp; done)) (by rfl)) ?_
        refine lin_rg (D' := 4095) 11 Y rfl rfl rfl (by repeat (first | exact Has.here _ | apply Has.there)) (p_load_agg (cs := #[_, _, _, _, _, _, _, _, _]) isAgg37 sizeOf37 Y (by first | omega | decide | (simp; done)) (by rfl)) ?_
        refine lin_rg (D' := 12287) 13 Y rfl rfl rfl (by repeat (first | exact Has.here _ | apply Has.there)) (p_load_agg (cs := #[_, _, _, _, _, _, _, _, _]) isAgg37 sizeOf37 Y (by first | omega | decide | (simp; done)) (by rfl)) ?_
        refine lin_rg (D' := 28671) 14 Y rfl rfl rfl (by repeat (first | exact Has.here _ | apply Has.there)) (p_load_agg (cs := #[_, _, _, _, _, _, _, _, _]) isAgg37 sizeOf37 Y (by first | omega | decide | (simp; done)) (by rfl)) ?_
        refine Zz (l := [12]) ?_
        refine Zy 4095 32767 [14, 13, 11, 10] [true, true, false, false] [(14, (_, _)), (13, (_, _))] rfl Y rfl rfl rfl rfl (Zu [_, _] Y call18 Y rfl (same_spec hP9 hG2)) ?hk_7 (fun _ _ h => h.elim) ?hl_7
        case hk_7 =>
         rintro _ _ ⟨rfl, rfl⟩
         refine ⟨Zk (Zk (keep_nil)), ?_⟩
         refine Zz (l := [15]) ?_
         refine Zy 32767 65535 [14, 13] [false, false] [] rfl Y rfl rfl rfl rfl (Zu [_, _] Y call16 Y rfl (r10_same hP9 hG2)) ?hk_8 (fun _ _ h => h.elim) ?hl_8
         case hk_8 =>
          rintro _ _ ⟨rfl, rfl⟩
          refine ⟨keep_nil, ?_⟩
          refine lin_wg (D' := 131071) 16 Y rfl rfl rfl (p_neq_bool underlying4 Y Y) ?_
          refine Zi 262143 17 rfl (p_pick_f Y Y) <| lin_nil ?_
          refine Zn [1, 11, 12, 15, 62, 63, 64, 115] ?_
          refine Zx ?_
          refine at_if Y (fun k6 => ?_) (fun k6 => ?_)
          ·
           exact absurd rfl k6
          ·
           refine at_skip <| nx_block_normal <| Zx <| Zg <| Ya (n := 1) Y Y <| Zm Y <| Z0 <| Zn [64, 1, 11, 12, 15, 62, 63] ?_
           refine nx_againB (e' := [(64, _)]) (m := _) (H' := _) (by exact ⟨i + 1, rfl, by omega, rfl, rfl⟩)
         case hl_8 =>
          exact each_nil
        case hl_7 =>
         exact each_nil
      case hl_6 =>
       exact each_nil
   ·
    refine at_exit <| Zt <| Zt <| nx_block_exit <| Zx <| Zq ?_
    rw [hMM]
    refine at_cutA (s1 := md) (s2 := mf ++ M) (by repeat (first | exact CutA.here _ | apply CutA.there)) ?_
    refine at_cutA (s1 := mf) (s2 := M) (by repeat (first | exact CutA.here _ | apply CutA.there)) ?_
    refine Zg <| Zm Y <| Za Y <| Z0 <| Zx <| at_ret ?_
    refine nx_end1 rfl results4 Y (by exact ⟨rfl, rfl⟩)

end Go.Proofs.YtjeepldonhgohaaGreatDoor


namespace Go.Proofs.YtjeepldonhgohaaGreatDoor
open Go.Proofs.Tryz
open Go Go.RowKit Gw
set_option linter.unusedVariables false
set_option linter.unusedSimpArgs false
set_option maxRecDepth 100000
attribute [local irreducible] Gw.At Gw.Nx Gw.Ops
open Go.ChangeShapes Go.WideShapes Go.Deep
section
variable {H : Type} {enc : TypeId × Value → H} {W : World} {base : Nat} {held : Bool}
/-- A slice, its elements' cells one after another, and what each element reads as. -/
theorem open_cellsW {P : Program} {t e : TypeId} {s fuel : Nat} {cs : List Value} {x : DataW H × List MemPlace} (ht : P.underlying t = some (.slice e)) (hc : P.cellsOf e = s) (hs : 0 < s) (h : DataW.trod enc P W base (fun _ => true) held fuel t cs = some x) :
    ∃ p len cap, cs = [.slice p len cap] ∧ (len ≤ maxLen ∧ len ≤ cap) ∧ ∀ i, i < len → ∃ cs' n z, cs'.length = s ∧ DataW.trod enc P W base (fun _ => true) held n e cs' = some z ∧ (∀ k ∈ z.1.weights P e, k ∈ x.1.weights P t) ∧
      ∃ g o cur T zz, p = some ⟨g, o, none⟩ ∧ W.heap[g]? = some (.cells cur T zz) ∧ ∀ j, j < s → cur[o + i * s + j]? = cs'[j]? := by
  rcases DataW.trod_slice ht h with ⟨rfl, _⟩ | ⟨a, len, cap, elems, rest, n, rfl, rfl, rfl, _, hl, hm, hel, hat, _⟩
  · exact ⟨none, 0, 0, rfl, ⟨Nat.zero_le _, Nat.le_refl _⟩, fun i hi => by omega⟩
  · refine ⟨some a, len, cap, rfl, ⟨by omega, hl⟩, fun i hi => ?_⟩
    have cell : ∀ i, i < len → ∃ cs' z, elems[i]? = some z ∧ W.cells? base (a.add (i * s)) s = some cs' ∧ DataW.trod enc P W base (fun _ => true) held n e cs' = some z := fun i hi => by
      obtain ⟨z, hz⟩ : ∃ z, elems[i]? = some z := ⟨_, List.getElem?_eq_getElem (by omega)⟩
      have h9 := hat i hi
      rw [hc, hz] at h9
      obtain ⟨cs', h1, h2⟩ := Option.bind_eq_some_iff.1 h9
      exact ⟨cs', z, hz, h1, h2⟩
    have hsp2 : a = ⟨a.block, a.off, none⟩ := by
      obtain ⟨cs0, _, _, g1, _⟩ := cell 0 (by omega)
      obtain ⟨_, glen, gg⟩ := World.cells?_some g1
      have g9 := gg 0 hs
      rw [List.getElem?_eq_getElem (l := cs0) (i := 0) (by omega), Nat.zero_mul, adr0, adr0] at g9
      exact adr_spot g9
    obtain ⟨cs', z, hz, h1, h2⟩ := cell i hi
    obtain ⟨_, hlen, hg⟩ := World.cells?_some h1
    refine ⟨cs', n, z, hlen, h2, fun k hk => ?_, ?_⟩
    · simp only [DataW.weights, ht]
      refine List.mem_cons_of_mem _ (List.mem_append_left _ ?_)
      have hmem : ∀ (l : List (DataW H × List MemPlace)), z ∈ l → k ∈ DataW.weightsAll P e (l.map (·.1)) := by
        intro l
        induction l with
        | nil => intro h; cases h
        | cons y l ih =>
          intro h
          simp only [List.map_cons, DataW.weightsAll]
          rcases List.mem_cons.1 h with rfl | h
          · exact List.mem_append_left _ hk
          · exact List.mem_append_right _ (ih h)
      exact hmem elems (List.mem_of_getElem? hz)
    · have h9 := hg 0 hs
      rw [List.getElem?_eq_getElem (l := cs') (i := 0) (by omega), hsp2, add_addr, add_addr] at h9
      obtain ⟨cur, T, zz, hb, _⟩ := cell_heap h9
      refine ⟨a.block, a.off, cur, T, zz, by rw [← hsp2], hb, fun j hj => ?_⟩
      have h8 := hg j hj
      rw [List.getElem?_eq_getElem (l := cs') (i := j) (by omega)] at h8 ⊢
      rw [hsp2, add_addr, add_addr] at h8
      obtain ⟨cur2, T2, zz2, hb2, hc2⟩ := cell_heap h8
      rw [hb] at hb2
      injection hb2 with e
      injection e with e1 _ _
      rw [e1]; exact hc2
theorem cStr1 : Tryz.prog.cellsOf 9 = 1 := by kernel_rfl
theorem cStrs1 : Tryz.prog.cellsOf 35 = 1 := by kernel_rfl
theorem cRow5 : Tryz.prog.cellsOf 74 = 5 := by kernel_rfl
/-- A list of strings, and how long they are. -/
theorem open_strsU {Tg : TypeId} {zg : Nat × Nat} (h4 : W.heap[0]? = some (.cells (kTab.map u32v).toArray Tg zg)) {fuel : Nat} {cs : List Value} {x : DataW H × List MemPlace} (h : DataW.trod enc Tryz.prog W base (fun _ => true) held fuel 35 cs = some x) :
    ∃ q c ls, cs = [.slice q ls.length c] ∧ StrsU (restL W [0]) (.slice q ls.length c) ls ∧ ∀ s ∈ ls, s.length ∈ x.1.weights Tryz.prog 35 := by
  obtain ⟨p, len, cap, rfl, hl, hel⟩ := open_cellsW underlying35 cStr1 (by decide) h
  obtain ⟨ls, h1, h2⟩ := list_choose len (fun i (s : Bs) => s.length ∈ x.1.weights Tryz.prog 35 ∧ ∃ g o cur T zz, p = some ⟨g, o, none⟩ ∧ (g, Obj.cells cur T zz) ∈ restL W [0] ∧ cur[o + i]? = some (strV s)) (fun i hi => by
    obtain ⟨cs', n, z, hlen, ht, hw, g, o, cur, T, zz, hp, hb, hc⟩ := hel i hi
    obtain ⟨s, rfl, rfl, _⟩ := DataW.trod_string underlying9 ht
    have h0 := hc 0 (by decide)
    rw [Nat.mul_one, Nat.add_zero] at h0
    refine ⟨s.data.toList, hw _ (by simp [DataW.weights]), g, o, cur, T, zz, hp, mem_rest hb (glob_ne1 h4 hb h0 rfl), ?_⟩
    rw [h0]
    show some (Value.string s) = some (.string (str s.data.toList))
    rw [str_self])
  subst h1
  exact ⟨p, cap, ls, rfl, ⟨p, cap, rfl, hl, fun i s hs => (h2 i s hs).2⟩, fun s hs => by
    obtain ⟨i, hi⟩ := List.getElem?_of_mem hs
    exact (h2 i s hi).1⟩
theorem open_pathsU {Tg : TypeId} {zg : Nat × Nat} (h4 : W.heap[0]? = some (.cells (kTab.map u32v).toArray Tg zg)) {fuel : Nat} {cs : List Value} {x : DataW H × List MemPlace} (h : DataW.trod enc Tryz.prog W base (fun _ => true) held fuel 34 cs = some x) :
    ∃ q c ps, cs = [.slice q ps.length c] ∧ PathsU (restL W [0]) (.slice q ps.length c) ps := by
  obtain ⟨p, len, cap, rfl, hl, hel⟩ := open_cellsW underlying34 cStrs1 (by decide) h
  obtain ⟨ps, h1, h2⟩ := list_choose len (fun i (l : List Bs) => ∃ q c, StrsU (restL W [0]) (.slice q l.length c) l ∧ ∃ g o cur T zz, p = some ⟨g, o, none⟩ ∧ (g, Obj.cells cur T zz) ∈ restL W [0] ∧ cur[o + i]? = some (.slice q l.length c)) (fun i hi => by
    obtain ⟨cs', n, z, hlen, ht, hw, g, o, cur, T, zz, hp, hb, hc⟩ := hel i hi
    obtain ⟨q, c, ls, rfl, hU, _⟩ := open_strsU h4 ht
    have h0 := hc 0 (by decide)
    rw [Nat.mul_one, Nat.add_zero] at h0
    exact ⟨ls, q, c, hU, g, o, cur, T, zz, hp, mem_rest hb (glob_ne1 h4 hb h0 rfl), h0⟩)
  subst h1
  exact ⟨p, cap, ps, rfl, p, cap, rfl, hl, h2⟩
theorem cells_ext {cur : Array Value} {o : Nat} {l : List Value} (h : ∀ j, j < l.length → cur[o + j]? = l[j]?) (h0 : 0 < l.length) : o + l.length ≤ cur.size ∧ cur.extract o (o + l.length) = l.toArray := by
  have hs : o + l.length ≤ cur.size := by
    have h9 := h (l.length - 1) (by omega)
    rw [List.getElem?_eq_getElem (by omega)] at h9
    have := (Array.getElem?_eq_some_iff.1 h9).1
    omega
  refine ⟨hs, Array.toList_inj.1 (List.ext_getElem? fun i => ?_)⟩
  rw [Array.getElem?_toList, Array.getElem?_extract]
  by_cases hi : i < l.length
  · rw [if_pos (by omega), h i hi]
  · rw [if_neg (by omega)]
    exact (List.getElem?_eq_none (by show l.length ≤ i; omega)).symm
theorem open_rowsU {Tg : TypeId} {zg : Nat × Nat} (h4 : W.heap[0]? = some (.cells (kTab.map u32v).toArray Tg zg)) {fuel : Nat} {cs : List Value} {x : DataW H × List MemPlace} (h : DataW.trod enc Tryz.prog W base (fun _ => true) held fuel 33 cs = some x) :
    ∃ q c rs, cs = [.slice q rs.length c] ∧ RowsU (restL W [0]) (.slice q rs.length c) rs := by
  obtain ⟨p, len, cap, rfl, hl, hel⟩ := open_cellsW underlying33 cRow5 (by decide) h
  obtain ⟨rs, h1, h2⟩ := list_choose len (fun i (r : RowM) => ∃ g o cur T zz, p = some ⟨g, o, none⟩ ∧ (g, Obj.cells cur T zz) ∈ restL W [0] ∧ o + i * 5 + 5 ≤ cur.size ∧ cur.extract (o + i * 5) (o + i * 5 + 5) = #[.int .i64 r.t, .int .i64 r.k, .int .i64 r.v.a, .int .i64 r.v.b, .int .i64 r.v.c]) (fun i hi => by
    obtain ⟨cs', n, z, hlen, ht, hw, g, o, cur, T, zz, hp, hb, hc⟩ := hel i hi
    obtain ⟨xs, m, _, _, hcl, hxl, hf⟩ := DataW.trod_struct underlying74 ht
    have f0 := hf 0 _ rfl
    have f1 := hf 1 _ rfl
    have f2 := hf 2 _ rfl
    match cs', hlen with
    | [a, b, c, d, e], _ =>
      obtain ⟨y0, hy0⟩ : ∃ y, xs[0]? = some y := ⟨_, List.getElem?_eq_getElem (by rw [hxl]; decide)⟩
      obtain ⟨y1, hy1⟩ : ∃ y, xs[1]? = some y := ⟨_, List.getElem?_eq_getElem (by rw [hxl]; decide)⟩
      obtain ⟨y2, hy2⟩ : ∃ y, xs[2]? = some y := ⟨_, List.getElem?_eq_getElem (by rw [hxl]; decide)⟩
      rw [hy0] at f0
      rw [hy1] at f1
      rw [hy2] at f2
      obtain ⟨k0, e0, _, _⟩ := DataW.trod_int underlying3 f0
      obtain ⟨k1, e1, _, _⟩ := DataW.trod_int underlying3 f1
      obtain ⟨v0, v1, v2, e2, _⟩ := open_arr3 f2 rfl
      change [a] = [_] at e0
      change [b] = [_] at e1
      change [c, d, e] = [_, _, _] at e2
      injection e0 with e0
      injection e1 with e1
      injection e2 with e2 e3
      injection e3 with e3 e4
      injection e4 with e4
      subst e0 e1 e2 e3 e4
      have h0 := hc 0 (by decide)
      rw [Nat.add_zero] at h0
      obtain ⟨q1, q2⟩ := cells_ext (cur := cur) (o := o + i * 5) (l := [.int .i64 k0, .int .i64 k1, .int .i64 v0, .int .i64 v1, .int .i64 v2]) (fun j hj => hc j hj) (Nat.succ_pos _)
      exact ⟨⟨k0, k1, ⟨v0, v1, v2⟩⟩, g, o, cur, T, zz, hp, mem_rest hb (glob_ne1 h4 hb h0 rfl), q1, q2⟩)
  subst h1
  exact ⟨p, cap, rs, rfl, p, cap, rfl, hl, h2⟩
theorem cProof9 : Tryz.prog.cellsOf 37 = 9 := by kernel_rfl
theorem mem_each {P : Program} : ∀ {ts : List TypeId} {ds : List (DataW H)} {i : Nat} {t : TypeId} {d : DataW H} {k : Nat}, ts[i]? = some t → ds[i]? = some d → k ∈ d.weights P t → k ∈ DataW.weightsEach P ts ds
  | t :: ts, d :: ds, 0, _, _, k, h1, h2, hk => by
    injection h1 with h1
    injection h2 with h2
    subst h1 h2
    exact List.mem_append_left _ hk
  | t :: ts, d :: ds, i + 1, _, _, k, h1, h2, hk => List.mem_append_right _ (mem_each (i := i) h1 h2 hk)
  | [], _, _, _, _, _, h1, _, _ => by simp at h1
  | _ :: _, [], _, _, _, _, _, h2, _ => by simp at h2
/-- A proof, and how long its roots are. -/
theorem open_proof1 {Tg : TypeId} {zg : Nat × Nat} (h4 : W.heap[0]? = some (.cells (kTab.map u32v).toArray Tg zg)) {fuel : Nat} {cs : List Value} {x : DataW H × List MemPlace} (h : DataW.trod enc Tryz.prog W base (fun _ => true) held fuel 37 cs = some x) (hl : cs.length = 9) :
    ∃ (X : RP) (v1 v2 v3 : Value), cs = [.int .i64 X.tb, .int .i64 X.cl, .int .i64 X.lo, .int .i64 X.hi, .int .i64 X.ct, .int .i64 X.fi, v1, v2, v3] ∧ RPIn (restL W [0]) (.agg #[.int .i64 X.tb, .int .i64 X.cl, .int .i64 X.lo, .int .i64 X.hi, .int .i64 X.ct, .int .i64 X.fi, v1, v2, v3]) X ∧ ∀ s ∈ X.roots, s.length ∈ x.1.weights Tryz.prog 37 := by
  obtain ⟨xs, m, _, hx, hcl, hxl, hf⟩ := DataW.trod_struct underlying37 h
  match cs, hl with
  | [a0, a1, a2, a3, a4, a5, a6, a7, a8], _ =>
    have hy : ∀ i, i < 9 → ∃ y, xs[i]? = some y := fun i hi => ⟨_, List.getElem?_eq_getElem (by rw [hxl]; exact hi)⟩
    obtain ⟨y0, hy0⟩ := hy 0 (by decide)
    obtain ⟨y1, hy1⟩ := hy 1 (by decide)
    obtain ⟨y2, hy2⟩ := hy 2 (by decide)
    obtain ⟨y3, hy3⟩ := hy 3 (by decide)
    obtain ⟨y4, hy4⟩ := hy 4 (by decide)
    obtain ⟨y5, hy5⟩ := hy 5 (by decide)
    obtain ⟨y6, hy6⟩ := hy 6 (by decide)
    obtain ⟨y7, hy7⟩ := hy 7 (by decide)
    obtain ⟨y8, hy8⟩ := hy 8 (by decide)
    obtain ⟨k0, e0, _, _⟩ := DataW.trod_int underlying3 ((hf 0 _ rfl).trans hy0)
    obtain ⟨k1, e1, _, _⟩ := DataW.trod_int underlying3 ((hf 1 _ rfl).trans hy1)
    obtain ⟨k2, e2, _, _⟩ := DataW.trod_int underlying3 ((hf 2 _ rfl).trans hy2)
    obtain ⟨k3, e3, _, _⟩ := DataW.trod_int underlying3 ((hf 3 _ rfl).trans hy3)
    obtain ⟨k4, e4, _, _⟩ := DataW.trod_int underlying3 ((hf 4 _ rfl).trans hy4)
    obtain ⟨k5, e5, _, _⟩ := DataW.trod_int underlying3 ((hf 5 _ rfl).trans hy5)
    obtain ⟨q6, c6, rs, e6, hR⟩ := open_rowsU h4 ((hf 6 _ rfl).trans hy6)
    obtain ⟨q7, c7, ps, e7, hP⟩ := open_pathsU h4 ((hf 7 _ rfl).trans hy7)
    obtain ⟨q8, c8, ls, e8, hT, hw⟩ := open_strsU h4 ((hf 8 _ rfl).trans hy8)
    change [a0] = [_] at e0
    change [a1] = [_] at e1
    change [a2] = [_] at e2
    change [a3] = [_] at e3
    change [a4] = [_] at e4
    change [a5] = [_] at e5
    change [a6] = [_] at e6
    change [a7] = [_] at e7
    change [a8] = [_] at e8
    injection e0 with e0
    injection e1 with e1
    injection e2 with e2
    injection e3 with e3
    injection e4 with e4
    injection e5 with e5
    injection e6 with e6
    injection e7 with e7
    injection e8 with e8
    subst e0 e1 e2 e3 e4 e5 e6 e7 e8
    refine ⟨⟨k0, k1, k2, k3, k4, k5, rs, ps, ls⟩, _, _, _, rfl, ⟨_, _, _, rfl, hR, hP, hT⟩, fun s hs => ?_⟩
    rw [hx]
    simp only [DataW.weights, underlying37]
    exact mem_each (i := 8) rfl (by rw [List.getElem?_map, hy8]; rfl) (hw s hs)
end
theorem okWide_str {P : Program} {w : World} {r : Reach} {base : Nat} {t : TypeId} {fs : Array Field} {v : Value} (hu : P.underlying t = some (.struct fs)) (h : Value.okWide P w r base t v) : ∃ cs, v = .agg cs ∧ cs.size = P.cellsOf t := by
  unfold Value.okWide at h
  rw [hu] at h
  obtain ⟨cs, rfl, h1, _⟩ := h
  exact ⟨cs, rfl, h1⟩
theorem reach_lt : reachBytes ≤ 140737488354000 := by decide

end Go.Proofs.YtjeepldonhgohaaGreatDoor

namespace Go.Proofs.YtjeepldonhgohaaGreatDoor
open Go.Proofs.Tryz
open Go Go.RowKit Gw
set_option linter.unusedVariables false
set_option linter.unusedSimpArgs false
set_option maxRecDepth 100000
attribute [local irreducible] Gw.At Gw.Nx Gw.Ops
theorem pmatch_card (X : RP) (v1 v2 v3 : Value) (M : List Chunk) (hW : RPIn M (.agg #[.int .i64 X.tb, .int .i64 X.cl, .int .i64 X.lo, .int .i64 X.hi, .int .i64 X.ct, .int .i64 X.fi, v1, v2, v3]) X) (hXs : ∀ s ∈ X.roots, s.length ≤ 140737488354000) (root : Bs) (p : Option Addr) (cap : Nat) (ys : List (List Int)) (hX : SixIn M (.slice p ys.length cap) ys) (a b c d : Int) (ha : -9223372036854775808 ≤ a ∧ a ≤ 9223372036854775807) (hb : -9223372036854775808 ≤ b ∧ b ≤ 9223372036854775807) (hc : -9223372036854775808 ≤ c ∧ c ≤ 9223372036854775807) (hd : -9223372036854775808 ≤ d ∧ d ≤ 9223372036854775807) (e f g : Int) (he : -9223372036854775808 ≤ e ∧ e ≤ 9223372036854775807) (hf : -9223372036854775808 ≤ f ∧ f ≤ 9223372036854775807) (hg : -9223372036854775808 ≤ g ∧ g ≤ 9223372036854775807) (Tg : TypeId) (zg : Nat × Nat) :
    DoesR Tryz.prog 4 #[.agg #[.int .i64 X.tb, .int .i64 X.cl, .int .i64 X.lo, .int .i64 X.hi, .int .i64 X.ct, .int .i64 X.fi, v1, v2, v3], .string (str root), .slice p ys.length cap, .agg #[.int .i64 a, .int .i64 b, .int .i64 c, .int .i64 d], .agg #[.int .i64 e, .int .i64 f, .int .i64 g]] [[(0, .cells (kTab.map u32v).toArray Tg zg)], M] (.bool true) := pmatch_law hW hXs root hX a b c d e f g ha.1 ha.2 hb.1 hb.2 hc.1 hc.2 hd.1 hd.2 he.1 he.2 hf.1 hf.2 hg.1 hg.2 Tg zg

end Go.Proofs.YtjeepldonhgohaaGreatDoor
