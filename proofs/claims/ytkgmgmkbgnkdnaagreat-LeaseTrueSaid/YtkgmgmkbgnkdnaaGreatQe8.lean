/- eval: Same, Of. -/
import Derived.Test.YtkgmgmkbgnkdnaaGreatEz
import Derived.Test.YtkgmgmkbgnkdnaaGreatQe7
namespace Go.Proofs.YtkgmgmkbgnkdnaaGreat
open Go.Proofs.Tryz
open Go Go.RowKit Gw
set_option linter.unusedVariables false
set_option linter.unusedSimpArgs false
set_option maxRecDepth 100000
attribute [local irreducible] Gw.At Gw.Nx Gw.Ops
theorem resM_eq {x y : ResM} : x = y ↔ x.val = y.val ∧ x.fnd = y.fnd ∧ x.rows = y.rows := by
  obtain ⟨a, b, c⟩ := x
  obtain ⟨d, e, f⟩ := y
  simp only [ResM.mk.injEq]
  constructor
  · rintro ⟨h1, h2, h3⟩; exact ⟨h2, h3, h1⟩
  · rintro ⟨h1, h2, h3⟩; exact ⟨h3, h1, h2⟩
theorem valL_in {r : RowM} (h : r.ok) (c : Int) : -1000000000 ≤ valL r c ∧ valL r c ≤ 1000000000 := by
  obtain ⟨⟨h1, h2, h3⟩, h4, h5⟩ := h
  unfold inV at h1 h2 h3
  unfold valL
  split
  · omega
  · split
    · omega
    · split
      · omega
      · split <;> omega
theorem from_two {A B : List Chunk} {v vo : Value} {rows others : List RowM} (hv : RowsU A v rows) (ho : RowsU B vo others) (q : QM) (hb : rows.length ≤ 1000000000) (hm : ValidQ q → ∀ r ∈ rows, -1000000000 ≤ valL r q.bq ∧ valL r q.bq ≤ 1000000000) : Does Tryz.prog 30 #[.agg #[.int .i64 q.kd, .int .i64 q.tb, .int .i64 q.cl, .int .i64 q.lo, .int .i64 q.hi, .int .i64 q.bq, .int .i64 q.ot], v, vo] [A, B] (fun w H' => ∃ rv s, w = .agg #[rv, .int .i64 (fromV q rows others).val, .bool (fromV q rows others).fnd] ∧ RowS 5 62 rv (fromV q rows others).rows.length (rowCells (fromV q rows others).rows) s ∧ H' = [s, A, B]) := by
  refine does_re (from_spec (hv.mono (fun c hc => List.mem_append_left B hc)) (ho.mono (fun c hc => List.mem_append_right A hc)) q hb hm) (by simp) ?_
  rintro r H' ⟨rv, s, rfl, h, rfl⟩
  exact ⟨_, ⟨rv, s, rfl, h, rfl⟩, by simp⟩
theorem st_rangeI (v : Value) (p : Int) (rs : List RowM) (s : List Chunk) (hv : StIs v p rs s) (t c lo hi : Int) (hc : 0 ≤ c ∧ c ≤ 3) : Does Tryz.prog 31 #[v, .int .i64 t, .int .i64 c, .int .i64 lo, .int .i64 hi] [s] (fun r H' => ∃ so, RowS 5 62 r (rangeL rs t c.toNat lo hi).length (rowCells (rangeL rs t c.toNat lo hi)) so ∧ H' = [so, s]) := by
  have h := st_range v p rs s hv t c.toNat lo hi (by omega)
  rwa [show ((c.toNat : Nat) : Int) = c by omega] at h
theorem rangeL_sub {rs : List RowM} {t : Int} {c : Nat} {lo hi : Int} : (rangeL rs t c lo hi).length ≤ rs.length ∧ ∀ r ∈ rangeL rs t c lo hi, r ∈ rs := by
  have h := rangeL_perm rs t c lo hi
  exact ⟨by rw [h.length_eq]; exact List.length_filter_le _ _, fun r hr => (List.mem_filter.1 (h.mem_iff.1 hr)).1⟩
theorem eval_from {rs : List RowM} {q : QM} (h : ValidQ q) : fromV q (rangeL rs q.tb q.cl.toNat q.lo q.hi) (tabL rs q.ot) = evalT rs q := fv_ok h

theorem esame_spec {M : List Chunk} {va vb : Value} {x y : ResM} (ha : RowsU M va x.rows) (hb : RowsU M vb y.rows) : DoesR Tryz.prog 14 #[.agg #[va, .int .i64 x.val, .bool x.fnd], .agg #[vb, .int .i64 y.val, .bool y.fnd]] [M] (.bool (decide (x = y))) := by
 obtain ⟨pa, ca, rfl, _⟩ := id ha
 obtain ⟨pb, cb, rfl, _⟩ := id hb
 refine spec_enter func14 rfl ntmps14 rfl ?_
 intro u R
 refine Zb [0, 1] ?_
 refine Zq <| Zg <| Ze (w_box Y (cs := #[_, _, _]) rfl) ?_
 rintro _ _ ⟨b1, rfl, rfl⟩
 refine Ze (w_box Y (cs := #[_, _, _]) rfl) ?_
 rintro _ _ ⟨b2, rfl, rfl⟩
 refine Za Y <| Z0 <| Zx <| Zq <| Zg <| Zh 1 underlying49 rfl rfl sizeOf3 Y <| Zl isAgg3 Y ?_
 refine Zh 1 underlying49 rfl rfl sizeOf3 Y <| Zl isAgg3 Y ?_
 first | refine op_v (p_eql_nat Y Y) ?_ | refine op_v (p_eql Y Y) ?_
 refine Zm Y ?_
 first | refine ops_split (t := 10) Y rfl (fun h1 => ?_) (fun h1 => ?_) | refine ops_split_bool (t := 10) Y rfl (fun h1 => ?_) (fun h1 => ?_)
 ·
  refine Yf 2 underlying49 rfl rfl sizeOf4 Y <| Yl isAgg4 Y ?_
  refine Yf 2 underlying49 rfl rfl sizeOf4 Y <| Yl isAgg4 Y ?_
  refine Yg (p_eql_bool underlying4 Y Y) <| Zv (p_pick_t Y Y) <| Zm Y ?_
  first | refine ops_split (t := 17) Y rfl (fun h2 => ?_) (fun h2 => ?_) | refine ops_split_bool (t := 17) Y rfl (fun h2 => ?_) (fun h2 => ?_)
  ·
   refine Yf 0 underlying49 rfl rfl sizeOf47 Y <| Yl isAgg47 Y ?_
   refine Yf 0 underlying49 rfl rfl sizeOf47 Y <| Yl isAgg47 Y ?_
   refine Zr [_, _] Y call33 Y rfl (eqr_spec ha hb) ?_
   rintro _ _ ⟨rfl, rfl⟩
   refine Zv (p_pick_t Y Y) <| Za Y <| Z0 <| Zn [4] ?_
   refine Zx <| at_ret ?_
   refine nx_end1 rfl results14 Y (by
         have e9 : decide (x = y) = decide (x.val = y.val ∧ x.fnd = y.fnd ∧ x.rows = y.rows) := decide_eq_decide.2 resM_eq
         exact ⟨congrArg Value.bool (by rw [e9]; simp [*]), rfl⟩)
  ·
   refine op_skip Y rfl <| op_skip Y rfl <| op_skip Y rfl <| op_skip Y rfl <| op_skip Y rfl <| Zv (p_pick_f Y Y) <| Za Y <| Z0 <| Zn [4] ?_
   refine Zx <| at_ret ?_
   refine nx_end1 rfl results14 Y (by
         have e9 : decide (x = y) = decide (x.val = y.val ∧ x.fnd = y.fnd ∧ x.rows = y.rows) := decide_eq_decide.2 resM_eq
         exact ⟨congrArg Value.bool (by rw [e9]; simp [*]), rfl⟩)
 ·
  refine op_skip Y rfl <| op_skip Y rfl <| op_skip Y rfl <| op_skip Y rfl <| op_skip Y rfl <| Zv (p_pick_f Y Y) <| Zm Y <| op_skip Y rfl <| op_skip Y rfl <| op_skip Y rfl <| op_skip Y rfl <| op_skip Y rfl <| Zv (p_pick_f Y Y) <| Za Y <| Z0 <| Zn [4] ?_
  refine Zx <| at_ret ?_
  refine nx_end1 rfl results14 Y (by
        have e9 : decide (x = y) = decide (x.val = y.val ∧ x.fnd = y.fnd ∧ x.rows = y.rows) := decide_eq_decide.2 resM_eq
        exact ⟨congrArg Value.bool (by rw [e9]; simp [*]), rfl⟩)

set_option maxHeartbeats 1000000 in
theorem of_spec (v : Value) (p : Int) (rs : List RowM) (s : List Chunk) (hv : StIs v p rs s) (hok : ∀ r ∈ rs, r.ok) (q : QM) (hq : ValidQ q) : Does Tryz.prog 13 #[v, .agg #[.int .i64 q.kd, .int .i64 q.tb, .int .i64 q.cl, .int .i64 q.lo, .int .i64 q.hi, .int .i64 q.bq, .int .i64 q.ot]] [s] (fun w H' => ∃ rv sr, w = .tuple #[.agg #[rv, .int .i64 (evalT rs q).val, .bool (evalT rs q).fnd], .int .i64 0] ∧ RowS 5 62 rv (evalT rs q).rows.length (rowCells (evalT rs q).rows) sr ∧ H' = [sr, s]) := by
 have hcl := hq.2.1
 obtain ⟨sp, mb, es, ck, lm, rfl, hm0, hR0, hs0, hn0, hs9⟩ := id hv
 have hr1 := @rangeL_sub rs q.tb q.cl.toNat q.lo q.hi
 have hr2 : (tabL rs q.ot).length ≤ rs.length := List.length_filter_le _ _
 have hml : maxLen = 9223372036854775807 := rfl
 refine spec_enter func13 rfl ntmps13 rfl ?_
 intro u R
 refine Zb [0, 1] ?_
 refine Zq <| Zg <| Ze (w_box Y (cs := #[_, _, _, _, _, _, _]) rfl) ?_
 rintro _ _ ⟨bq, rfl, rfl⟩
 refine Ze (w_alloc zeroValue49 (cs := #[_, _, _]) rfl) ?_
 rintro _ _ ⟨br, rfl, rfl⟩
 refine Za Y <| Z0 <| Zx <| Zq <| at_block <| Zq <| Zg <| Zm Y ?_
 first | refine op_v (p_eql_nil_nil underlying43 Y Y) ?_ | refine op_v (p_eql_ptr_nil underlying43 Y Y) ?_
 refine Za Y <| Z0 <| Zx ?_
 refine at_if_bool Y (fun hb0 => ?_) (fun hb0 => ?_)
 ·
  cases hb0
 ·
  refine Zq <| Zg <| Zo (by repeat (first | exact Has.here _ | apply Has.there)) (p_load_agg (cs := #[_, _, _, _, _, _, _]) isAgg29 sizeOf29 Y (by first | omega | decide | (simp; done)) (by rfl)) ?_
  refine Zr [_] Y call24 Y rfl (q_valid q) ?_
  rintro _ _ ⟨rfl, rfl⟩
  first | refine op_v (p_not_dec Y) ?_ | refine op_v (p_not Y) ?_
  refine Za Y <| Z0 <| Zx ?_
  refine at_if_bool Y (fun hb1 => ?_) (fun hb1 => ?_)
  ·
   exfalso; simp [hq] at hb1
  ·
   refine at_skip <| nx_block_normal <| Zx <| Zq <| at_draw (n := 18) (0 :: 0 :: 0 :: 4 :: 0 :: 16 :: 0 :: 64 :: 0 :: 256 :: 1022 :: 0 :: 0 :: 4096 :: 16382 :: 32767 :: 65535 :: 131071 :: []) 115712 (by kernel_rfl) (by kernel_rfl) rfl ?_
   refine lin_r (D' := 1) 0 rfl rfl rfl (by repeat (first | exact Has.here _ | apply Has.there)) (p_load_agg (cs := #[_, _, _, _, _, _, _]) isAgg29 sizeOf29 Y (by first | omega | decide | (simp; done)) (by rfl)) ?_
   refine Zi 3 1 rfl (p_move Y) <| Zi 7 2 rfl (p_fieldAddr0 (off := 1) underlying29 rfl rfl sizeOf3 Y) <| Zj 15 3 rfl isAgg3 Y ?_
   refine Zi 31 4 rfl (p_fieldAddr0 (off := 2) underlying29 rfl rfl sizeOf3 Y) <| Zj 63 5 rfl isAgg3 Y ?_
   refine Zi 127 6 rfl (p_fieldAddr0 (off := 3) underlying29 rfl rfl sizeOf3 Y) <| Zj 255 7 rfl isAgg3 Y ?_
   refine Zi 511 8 rfl (p_fieldAddr0 (off := 4) underlying29 rfl rfl sizeOf3 Y) <| Zj 1023 9 rfl isAgg3 Y ?_
   refine Zi 3071 11 rfl (p_move Y) <| Zi 7167 12 rfl (p_fieldAddr0 (off := 6) underlying29 rfl rfl sizeOf3 Y) <| Zj 15359 13 rfl isAgg3 Y ?_
   refine Zz (l := [10]) ?_
   refine Zy 1022 16383 [13, 9, 7, 5, 3, 0] [true, false, false, false, false, true] [(13, (_, _)), (0, (_, _))] rfl Y rfl rfl rfl rfl (Zw [_, _, _, _, _] Y call31 Y rfl (st_rangeI _ p rs s hv q.tb q.cl q.lo q.hi hcl)) ?hk_1 no_pan ?hl_1
   case hk_1 =>
    rintro _ _ ⟨_, ⟨s1, h1, rfl⟩, rfl⟩
    refine ⟨Zk (Zk (keep_nil)), ?_⟩
    obtain ⟨p1, c1, rfl⟩ := h1.form
    have hU1 := rowsU_row h1 (by omega)
    refine Zz (l := [14]) ?_
    refine Zy 16382 32767 [13, 0] [false, true] [(0, (_, _))] rfl Y rfl rfl rfl rfl (Zw [_, _] Y call32 Y rfl (st_rows _ p rs s hv q.ot)) ?hk_2 no_pan ?hl_2
    case hk_2 =>
     rintro _ _ ⟨_, ⟨s2, h2, rfl⟩, rfl⟩
     refine ⟨Zk (keep_nil), ?_⟩
     obtain ⟨p2, c2, rfl⟩ := h2.form
     have hU2 := rowsU_row h2 (by omega)
     refine Zz (l := [15]) ?_
     refine Zy 32767 65535 [0] [false] [] rfl Y rfl rfl rfl rfl (Zw [_, _, _] Y call30 Y rfl (from_two hU1 hU2 q (by omega) (fun _ r hr => valL_in (hok r (hr1.2 r hr)) q.bq))) ?hk_3 no_pan ?hl_3
     case hk_3 =>
      rintro _ _ ⟨_, ⟨rv, s3, rfl, h3, rfl⟩, rfl⟩
      refine ⟨keep_nil, ?_⟩
      rw [eval_from hq] at h3 ⊢
      obtain ⟨p3, c3, rfl⟩ := h3.form
      refine Zz (l := [16]) ?_
      refine Zy 65535 131071 [] [] [] rfl Y rfl rfl rfl rfl (w_store_agg sizeOf49 Y Y (by first | (simp [Value.oneCell']; done) | (simp [Value.oneCell', Value.cells]; done)) (by repeat (first | exact Upd.here _ | apply Upd.there)) (by rfl) (by first | rfl | (simp; done)) (by first | omega | decide | (simp; done)) (by exact free_zero _)) ?hk_4 (fun _ _ h => h.elim) ?hl_4
      case hk_4 =>
       rintro _ _ ⟨rfl, rfl⟩
       refine ⟨keep_nil, ?_⟩
       refine Zi 262143 17 rfl (p_assign Y) <| lin_nil ?_
       refine Zn [4, 5] ?_
       refine Zx <| at_ret ?_
       refine nx_endct rfl results13 Y (by repeat (first | exact Has.here _ | apply Has.there)) (loadVar_agg isAgg49 sizeOf49 (by first | decide | exact Nat.le_refl _ | (simp; done) | (simp; omega)) (rfl)) Y (by exact ⟨.slice p3 _ c3, s3, rfl, h3, rfl⟩)
      case hl_4 =>
       exact each_nil
     case hl_3 =>
      exact each_nil
    case hl_2 =>
     exact each_nil
   case hl_1 =>
    exact each_nil

end Go.Proofs.YtkgmgmkbgnkdnaaGreat
