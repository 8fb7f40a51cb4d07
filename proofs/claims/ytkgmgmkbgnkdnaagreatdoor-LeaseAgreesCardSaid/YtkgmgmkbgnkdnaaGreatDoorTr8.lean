/- statetree: complete, Rows. -/
import Derived.Test.YtkgmgmkbgnkdnaaGreatDoorEz
import Derived.Test.YtkgmgmkbgnkdnaaGreatDoorTr7
import Derived.Test.YtkgmgmkbgnkdnaaGreatDoorEx25

namespace Go.Proofs.YtkgmgmkbgnkdnaaGreatDoor
open Go.Proofs.Tryz
open Go Go.RowKit Gw
set_option linter.unusedVariables false
set_option linter.unusedSimpArgs false
set_option maxRecDepth 100000
attribute [local irreducible] Gw.At Gw.Nx Gw.Ops
def PathsU (M : List Chunk) (v : Value) (ps : List (List Bs)) : Prop := ∃ p cap, v = .slice p ps.length cap ∧ (ps.length ≤ maxLen ∧ ps.length ≤ cap) ∧ ∀ (i : Nat) (l : List Bs), ps[i]? = some l → ∃ q c, StrsU M (.slice q l.length c) l ∧ ∃ g off cur T zz, p = some ⟨g, off, none⟩ ∧ (g, Obj.cells cur T zz) ∈ M ∧ cur[off + i]? = some (.slice q l.length c)
def RPIn (M : List Chunk) (v : Value) (x : RP) : Prop := ∃ vr vp vt, v = .agg #[.int .i64 x.tb, .int .i64 x.cl, .int .i64 x.lo, .int .i64 x.hi, .int .i64 x.ct, .int .i64 x.fi, vr, vp, vt] ∧ RowsU M vr x.rows ∧ PathsU M vp x.paths ∧ StrsU M vt x.roots
theorem pathsU_of {e : TypeId} {v : Value} {ps : List (List Bs)} {pvs : List Value} {s mp : List Chunk} (h : RowS 1 e v ps.length pvs s) (hP : PathsS mp pvs ps) (hn : ps.length ≤ maxLen) : PathsU (s ++ mp) v ps := by
  rcases Nat.eq_zero_or_pos ps.length with h0 | h0
  · obtain ⟨b, cap, rfl⟩ := h.form
    exact ⟨b, cap, rfl, ⟨hn, by omega⟩, fun i s hs => by rw [List.eq_nil_of_length_eq_zero h0] at hs; simp at hs⟩
  · obtain ⟨g, cap, cur, z, rfl, rfl, hle, hg⟩ := rowS_get h h0
    refine ⟨_, cap, rfl, ⟨hn, hle⟩, fun i l hl => ?_⟩
    have hlt := (List.getElem?_eq_some_iff.1 hl).1
    obtain ⟨w, hw⟩ : ∃ w, pvs[i]? = some w := ⟨_, List.getElem?_eq_getElem (by have := hP.1; omega)⟩
    have hu := hP.2 i w l hw hl
    obtain ⟨q, c, e1, h1, h2⟩ := id hu
    subst e1
    refine ⟨q, c, hu.mono (fun c h => List.mem_append_right _ h), g, 0, cur, e, z, rfl, by simp, ?_⟩
    rw [Nat.zero_add]
    exact hg i _ hw
theorem PathsU.mono {M M' : List Chunk} {v : Value} {ls : List (List Bs)} (h : PathsU M v ls) (hm : ∀ c ∈ M, c ∈ M') : PathsU M' v ls := by
  obtain ⟨p, cap, e, hl, hg⟩ := h
  refine ⟨p, cap, e, hl, fun i s hs => ?_⟩
  obtain ⟨q, c, h0, g, off, cur, T, zz, e1, h1, h2⟩ := hg i s hs
  exact ⟨q, c, h0.mono hm, g, off, cur, T, zz, e1, hm _ h1, h2⟩
theorem prove_spec (v : Value) (p : Int) (rs : List RowM) (s : List Chunk) (hv : StIs v p rs s) (hs : SortedR rs) (hn : rs.length ≤ 2000) (hok : ∀ r ∈ rs, r.ok) (t c : Nat) (ht : t ≤ 3) (hc : c ≤ 3) (lo hi : Int) (hlh : lo ≤ hi) (Tg : TypeId) (zg : Nat × Nat) :
    Does Tryz.prog 26 #[v, .int .i64 (t : Int), .int .i64 (c : Int), .int .i64 lo, .int .i64 hi] [[(1, .cells (kTab.map u32v).toArray Tg zg)], s] (fun r H' => ∃ v' mem, r = .tuple #[v', .int .i64 0] ∧ RPIn mem v' (proveT rs t c lo hi) ∧ H' = [mem, [(1, .cells (kTab.map u32v).toArray Tg zg)], s]) := by
  have hml : maxLen = 9223372036854775807 := rfl
  refine does_re (prove_main v p rs s hv hs hn hok t c ht hc lo hi hlh Tg zg) rfl ?_
  rintro r H' ⟨vr, vp, vt, sr2, sp, pvs, mp, so, rfl, h1, h2, h3, h4, rfl⟩
  have hll := ordL_len hs (t : Int) c
  have hto : toT (ordL rs (t : Int) c) c hi ≤ (ordL rs (t : Int) c).length := Nat.min_le_right _ _
  have hpl := pathsT_len (ordL rs (t : Int) c) (fromT (ordL rs (t : Int) c) c lo) (toT (ordL rs (t : Int) c) c hi - fromT (ordL rs (t : Int) c) c lo)
  have hrl : (((ordL rs (t : Int) c).drop (fromT (ordL rs (t : Int) c) c lo)).take (toT (ordL rs (t : Int) c) c hi - fromT (ordL rs (t : Int) c) c lo)).length ≤ 2000 := by rw [List.length_take, List.length_drop]; omega
  refine ⟨_, ⟨_, sr2 ++ (sp ++ mp) ++ so, rfl, ⟨vr, vp, vt, rfl, ?_, ?_, ?_⟩, rfl⟩, by simp⟩
  · exact (rowsU_row h1 (by omega)).mono (fun c h => List.mem_append_left _ (List.mem_append_left _ h))
  · exact (pathsU_of (rowS_eq h2 hpl.symm rfl) h3 (by rw [hpl]; omega)).mono (fun c h => List.mem_append_left _ (List.mem_append_right _ h))
  · exact (strsU_row (rowS_eq h4 (sumL_len rs).symm rfl) (by rw [sumL_len]; omega)).mono (fun c h => List.mem_append_right _ h)
def RowFits (x : RP) (j : Nat) (r : RowM) : Prop := r.ok ∧ r.t = x.tb ∧ (valL r x.cl < x.lo → j = 0) ∧ (x.hi < valL r x.cl → x.rows.length ≤ j + 1)
def After (x : RP) (q r : RowM) : Prop := valL q x.cl < valL r x.cl ∨ valL q x.cl = valL r x.cl ∧ q.k < r.k
structure Comp (x : RP) : Prop where
  tc : (0 ≤ x.tb ∧ x.tb < 4) ∧ 0 ≤ x.cl ∧ x.cl < 4
  lh : x.lo ≤ x.hi
  ct : 0 ≤ x.ct ∧ x.ct ≤ 2000
  fi : 0 ≤ x.fi ∧ x.fi ≤ x.ct
  n : (x.rows.length : Int) ≤ x.ct - x.fi
  none : x.rows.length = 0 → x.ct = 0
  all : ∀ (j : Nat) (r : RowM), x.rows[j]? = some r → RowFits x j r ∧ (0 < j → ∀ q, x.rows[j - 1]? = some q → After x q r)
  first : ∀ r, x.rows[0]? = some r → x.fi = 0 ∨ valL r x.cl < x.lo
  last : ∀ r, x.rows[x.rows.length - 1]? = some r → x.fi + (x.rows.length : Int) = x.ct ∨ x.hi < valL r x.cl
noncomputable instance (x : RP) : Decidable (Comp x) := Classical.propDecidable _

theorem value_spec {M : List Chunk} {p : Option Addr} {cap : Nat} (x : RP) (vp vt : Value) (hR : RowsU M (.slice p x.rows.length cap) x.rows) (hc : 0 ≤ x.cl ∧ x.cl ≤ 3) (pb i : Nat) (r : RowM) (hr : x.rows[i]? = some r) : DoesR Tryz.prog 142 #[.int .i64 (i : Int), .pointer (some ⟨pb, 0, none⟩)] [[(pb, .cells #[.int .i64 x.tb, .int .i64 x.cl, .int .i64 x.lo, .int .i64 x.hi, .int .i64 x.ct, .int .i64 x.fi, .slice p x.rows.length cap, vp, vt] 79 (0, 0))], M] (.int .i64 (valL r x.cl)) := by
 have hml : maxLen = 9223372036854775807 := rfl
 obtain ⟨p9, cap9, e9, hl, hg⟩ := hR
 injection e9 with e91 e92 e93
 subst e91 e93
 obtain ⟨g, off, cur, T, zz, rfl, hm9, hsz9, hex9⟩ := hg i r hr
 have hlt := (List.getElem?_eq_some_iff.1 hr).1
 refine spec_enter func142 rfl ntmps142 rfl ?_
 intro u R
 refine Zb [0, 1] ?_
 refine Zq <| Zg <| Za Y <| Z0 <| Zx <| Zq <| at_draw (n := 9) (0 :: 1 :: 0 :: 7 :: 15 :: 0 :: 32 :: 127 :: 255 :: []) 128 (by kernel_rfl) (by kernel_rfl) rfl ?_
 refine Zi 1 0 rfl (p_fieldAddr0 (off := 6) underlying79 rfl rfl sizeOf38 Y) <| Zj 3 1 rfl isAgg38 Y ?_
 refine Zi 7 2 rfl (p_move Y) ?_
 (refine lin_v (D' := 15) 3 (p_indexAddr_nat underlying38 sizeOf67 Y Y ?_) ?_; (focus (first | omega | decide | (simp; done))))
 refine lin_rm (b := g) (x := .cells cur T zz) (D' := 31) 4 rfl rfl rfl (by simp [hm9]) (p_load_agg (cs := #[.int .i64 r.t, .int .i64 r.k, .int .i64 r.v.a, .int .i64 r.v.b, .int .i64 r.v.c]) isAgg67 sizeOf67 Y (by omega) hex9) ?_
 refine Zi 63 5 rfl (p_fieldAddr0 (off := 1) underlying79 rfl rfl sizeOf3 Y) <| Zj 127 6 rfl isAgg3 Y ?_
 refine Yz 7 127 255 [6, 4, 1] [false, false, false] [] rfl Y rfl rfl rfl rfl (Zu [_, _] Y call56 Y rfl (rw_valueI r x.cl hc)) ?_
 rintro _ _ ⟨rfl, rfl⟩
 refine ⟨keep_nil, ?_⟩
 refine Zi 511 8 rfl (p_assign Y) <| lin_nil ?_
 refine Zx <| at_ret ?_
 refine nx_end1 rfl results142 Y (by exact ⟨rfl, rfl⟩)

set_option maxHeartbeats 4000000 in
theorem complete_spec {M : List Chunk} {v : Value} {x : RP} (hv : RPIn M v x) : DoesR Tryz.prog 110 #[v] [M] (.bool (decide (Comp x))) := by
 have hml : maxLen = 9223372036854775807 := rfl
 obtain ⟨vr, vp, vt, rfl, hR, hP, hT⟩ := hv
 obtain ⟨p, cap, e9, hl, hg⟩ := id hR
 subst e9
 refine spec_enter func110 rfl ntmps110 rfl ?_
 intro u R
 refine Zb [0] ?_
 refine Zq <| Zg <| Ze (w_box Y (cs := #[_, _, _, _, _, _, _, _, _]) rfl) ?_
 rintro _ _ ⟨pb, rfl, rfl⟩
 refine Za Y <| Z0 <| Zx <| Zq <| Zg <| Zh 6 underlying79 rfl rfl sizeOf38 Y <| Zl isAgg38 Y ?_
 refine Zv (p_len_slice underlying38 Y) <| Za Y <| Z0 <| Zx <| Zq <| Zq <| Zg <| Zh 0 underlying79 rfl rfl sizeOf3 Y <| Zl isAgg3 Y ?_
 refine Zh 1 underlying79 rfl rfl sizeOf3 Y <| Zl isAgg3 Y ?_
 refine Xr [_, _] Y call51 Y rfl (exists_spec x.tb x.cl) ?_
 refine Zv (p_not_dec Y) <| Zm Y ?_
 refine ops_split (t := 17) Y rfl (fun hc1 => ?_) (fun hc1 => ?_)
 ·
  refine op_skip Y rfl <| op_skip Y rfl <| op_skip Y rfl <| op_skip Y rfl <| op_skip Y rfl <| Zv (p_pick_t Y Y) <| Zm Y <| op_skip Y rfl <| op_skip Y rfl <| op_skip Y rfl <| Zv (p_pick_t Y Y) <| Zm Y <| op_skip Y rfl <| op_skip Y rfl <| op_skip Y rfl <| Zv (p_pick_t Y Y) <| Zm Y <| op_skip Y rfl <| op_skip Y rfl <| op_skip Y rfl <| Zv (p_pick_t Y Y) <| Zm Y <| op_skip Y rfl <| op_skip Y rfl ?_
  refine op_skip Y rfl <| op_skip Y rfl <| op_skip Y rfl <| Zv (p_pick_t Y Y) <| Zm Y <| op_skip Y rfl <| op_skip Y rfl <| op_skip Y rfl <| op_skip Y rfl <| op_skip Y rfl <| op_skip Y rfl <| op_skip Y rfl <| Zv (p_pick_t Y Y) <| Z0 <| Zn [1, 3, 54] ?_
  refine Zx <| at_then Y <| Zq <| Zg <| Za Y <| Z0 <| Zx <| at_ret <| Zt ?_
  refine nx_end1 rfl results110 Y (by exact ⟨congrArg Value.bool (decide_eq_false (fun h9 : Comp x => by have h91 := h9.tc; have h92 := h9.lh; have h93 := h9.ct; have h94 := h9.fi; have h95 := h9.n; omega)).symm, rfl⟩)
 refine Yf 2 underlying79 rfl rfl sizeOf3 Y <| Yl isAgg3 Y ?_
 refine Yf 3 underlying79 rfl rfl sizeOf3 Y <| Yl isAgg3 Y ?_
 refine Yg (p_gtr Y Y) <| Zv (p_pick_f Y Y) <| Zm Y ?_
 refine ops_split (t := 24) Y rfl (fun hc2 => ?_) (fun hc2 => ?_)
 ·
  refine op_skip Y rfl <| op_skip Y rfl <| op_skip Y rfl <| Zv (p_pick_t Y Y) <| Zm Y <| op_skip Y rfl <| op_skip Y rfl <| op_skip Y rfl <| Zv (p_pick_t Y Y) <| Zm Y <| op_skip Y rfl <| op_skip Y rfl <| op_skip Y rfl <| Zv (p_pick_t Y Y) <| Zm Y <| op_skip Y rfl <| op_skip Y rfl <| op_skip Y rfl <| op_skip Y rfl <| op_skip Y rfl <| Zv (p_pick_t Y Y) <| Zm Y <| op_skip Y rfl <| op_skip Y rfl ?_
  refine op_skip Y rfl <| op_skip Y rfl <| op_skip Y rfl <| op_skip Y rfl <| op_skip Y rfl <| Zv (p_pick_t Y Y) <| Z0 <| Zn [1, 3, 54] ?_
  refine Zx <| at_then Y <| Zq <| Zg <| Za Y <| Z0 <| Zx <| at_ret <| Zt ?_
  refine nx_end1 rfl results110 Y (by exact ⟨congrArg Value.bool (decide_eq_false (fun h9 : Comp x => by have h91 := h9.tc; have h92 := h9.lh; have h93 := h9.ct; have h94 := h9.fi; have h95 := h9.n; omega)).symm, rfl⟩)
 refine Yf 4 underlying79 rfl rfl sizeOf3 Y <| Yl isAgg3 Y ?_
 refine Yg (p_lss Y Y) <| Zv (p_pick_f Y Y) <| Zm Y ?_
 refine ops_split (t := 29) Y rfl (fun hc3 => ?_) (fun hc3 => ?_)
 ·
  refine op_skip Y rfl <| op_skip Y rfl <| op_skip Y rfl <| Zv (p_pick_t Y Y) <| Zm Y <| op_skip Y rfl <| op_skip Y rfl <| op_skip Y rfl <| Zv (p_pick_t Y Y) <| Zm Y <| op_skip Y rfl <| op_skip Y rfl <| op_skip Y rfl <| op_skip Y rfl <| op_skip Y rfl <| Zv (p_pick_t Y Y) <| Zm Y <| op_skip Y rfl <| op_skip Y rfl <| op_skip Y rfl <| op_skip Y rfl <| op_skip Y rfl <| op_skip Y rfl <| op_skip Y rfl ?_
  refine Zv (p_pick_t Y Y) <| Z0 <| Zn [1, 3, 54] ?_
  refine Zx <| at_then Y <| Zq <| Zg <| Za Y <| Z0 <| Zx <| at_ret <| Zt ?_
  refine nx_end1 rfl results110 Y (by exact ⟨congrArg Value.bool (decide_eq_false (fun h9 : Comp x => by have h91 := h9.tc; have h92 := h9.lh; have h93 := h9.ct; have h94 := h9.fi; have h95 := h9.n; omega)).symm, rfl⟩)
 refine Yf 4 underlying79 rfl rfl sizeOf3 Y <| Yl isAgg3 Y ?_
 refine Yg (p_gtr Y Y) <| Zv (p_pick_f Y Y) <| Zm Y ?_
 refine ops_split (t := 34) Y rfl (fun hc4 => ?_) (fun hc4 => ?_)
 ·
  refine op_skip Y rfl <| op_skip Y rfl <| op_skip Y rfl <| Zv (p_pick_t Y Y) <| Zm Y <| op_skip Y rfl <| op_skip Y rfl <| op_skip Y rfl <| op_skip Y rfl <| op_skip Y rfl <| Zv (p_pick_t Y Y) <| Zm Y <| op_skip Y rfl <| op_skip Y rfl <| op_skip Y rfl <| op_skip Y rfl <| op_skip Y rfl <| op_skip Y rfl <| op_skip Y rfl <| Zv (p_pick_t Y Y) <| Z0 <| Zn [1, 3, 54] ?_
  refine Zx <| at_then Y <| Zq <| Zg <| Za Y <| Z0 <| Zx <| at_ret <| Zt ?_
  refine nx_end1 rfl results110 Y (by exact ⟨congrArg Value.bool (decide_eq_false (fun h9 : Comp x => by have h91 := h9.tc; have h92 := h9.lh; have h93 := h9.ct; have h94 := h9.fi; have h95 := h9.n; omega)).symm, rfl⟩)
 refine Yf 5 underlying79 rfl rfl sizeOf3 Y <| Yl isAgg3 Y ?_
 refine Yg (p_lss Y Y) <| Zv (p_pick_f Y Y) <| Zm Y ?_
 refine ops_split (t := 39) Y rfl (fun hc5 => ?_) (fun hc5 => ?_)
 ·
  refine op_skip Y rfl <| op_skip Y rfl <| op_skip Y rfl <| op_skip Y rfl <| op_skip Y rfl <| Zv (p_pick_t Y Y) <| Zm Y <| op_skip Y rfl <| op_skip Y rfl <| op_skip Y rfl <| op_skip Y rfl <| op_skip Y rfl <| op_skip Y rfl <| op_skip Y rfl <| Zv (p_pick_t Y Y) <| Z0 <| Zn [1, 3, 54] ?_
  refine Zx <| at_then Y <| Zq <| Zg <| Za Y <| Z0 <| Zx <| at_ret <| Zt ?_
  refine nx_end1 rfl results110 Y (by exact ⟨congrArg Value.bool (decide_eq_false (fun h9 : Comp x => by have h91 := h9.tc; have h92 := h9.lh; have h93 := h9.ct; have h94 := h9.fi; have h95 := h9.n; omega)).symm, rfl⟩)
 refine Yf 5 underlying79 rfl rfl sizeOf3 Y <| Yl isAgg3 Y ?_
 refine Yf 4 underlying79 rfl rfl sizeOf3 Y <| Yl isAgg3 Y ?_
 refine Yg (p_gtr Y Y) <| Zv (p_pick_f Y Y) <| Zm Y ?_
 refine ops_split (t := 46) Y rfl (fun hc6 => ?_) (fun hc6 => ?_)
 ·
  refine op_skip Y rfl <| op_skip Y rfl <| op_skip Y rfl <| op_skip Y rfl <| op_skip Y rfl <| op_skip Y rfl <| op_skip Y rfl <| Zv (p_pick_t Y Y) <| Z0 <| Zn [1, 3, 54] ?_
  refine Zx <| at_then Y <| Zq <| Zg <| Za Y <| Z0 <| Zx <| at_ret <| Zt ?_
  refine nx_end1 rfl results110 Y (by exact ⟨congrArg Value.bool (decide_eq_false (fun h9 : Comp x => by have h91 := h9.tc; have h92 := h9.lh; have h93 := h9.ct; have h94 := h9.fi; have h95 := h9.n; omega)).symm, rfl⟩)
 refine Zf Y Y <| Yf 4 underlying79 rfl rfl sizeOf3 Y <| Yl isAgg3 Y ?_
 refine Yf 5 underlying79 rfl rfl sizeOf3 Y <| Yl isAgg3 Y ?_
 (refine op_wg Y (p_sub Y Y (IntWalk.i64_in _ ?_)) rfl rfl ?_; (focus (first | omega | (simp; omega))))
 refine Yg (p_gtr Y Y) <| Zv (p_pick_f Y Y) <| Z0 <| Zn [1, 3, 54] ?_
 refine Zx ?_
 refine at_if Y (fun hc7 => ?_) (fun hc7 => ?_)
 ·
  refine Zq <| Zg <| Za Y <| Z0 <| Zx <| at_ret <| Zt ?_
  refine nx_end1 rfl results110 Y (by exact ⟨congrArg Value.bool (decide_eq_false (fun h9 : Comp x => by have h91 := h9.tc; have h92 := h9.lh; have h93 := h9.ct; have h94 := h9.fi; have h95 := h9.n; omega)).symm, rfl⟩)
 refine at_skip <| Zx <| Zq <| Zq <| Zg <| Zm Y <| Zv (p_eql_nat (n := 0) Y Y) <| Z0 <| Zx ?_
 refine at_if Y (fun hz => ?_) (fun hz => ?_)
 ·
  refine Zq <| Zg <| Zh 4 underlying79 rfl rfl sizeOf3 Y <| Zl isAgg3 Y ?_
  refine Zv (p_eql Y Y) <| Za Y <| Z0 <| Zx <| at_ret <| Zt ?_
  refine nx_end1 rfl results110 Y (by exact ⟨dec_bool ⟨fun h9 => ⟨by omega, by omega, by omega, by omega, by omega, fun _ => h9, fun j r hj => by have := (List.getElem?_eq_some_iff.1 hj).1; omega, fun r hj => by have := (List.getElem?_eq_some_iff.1 hj).1; omega, fun r hj => by have := (List.getElem?_eq_some_iff.1 hj).1; omega⟩, fun h9 => h9.none hz⟩, rfl⟩)
 refine at_skip <| Zx <| Zq <| Zg <| Zv (p_makeFunc (vs := []) (us := [_]) Y Y) ?_
 refine Za Y <| Z0 <| Zx <| Zq <| Zq <| Zg <| Zh 6 underlying79 rfl rfl sizeOf38 Y <| Zl isAgg38 Y ?_
 refine Zv (p_len_slice underlying38 Y) <| Zm Y <| Z0 <| Zx <| at_block <| Zb [64, 1, 3, 4, 62, 63] ?_
 refine at_loopB (e0 := [(64, _)]) (H0 := _) (n := _) (fun m e H => ∃ (i : Nat), m = x.rows.length - i ∧ (i ≤ x.rows.length ∧ ∀ (j : Nat) (r : RowM), j < i → x.rows[j]? = some r → RowFits x j r ∧ (0 < j → ∀ q, x.rows[j - 1]? = some q → After x q r)) ∧ e = [(64, .int .i64 (i : Int))] ∧ H = []) (by exact ⟨0, rfl, ⟨Nat.zero_le _, by intro j r hj; omega⟩, rfl, rfl⟩) Wp ?_
 rintro _ _ _ ⟨i, rfl, ⟨hi, hall⟩, rfl, rfl⟩
 refine Zq <| Zg <| Zv (p_lss_nat Y Y) <| Z0 <| Zx <| Zq ?_
 refine at_if Y (fun hlt => ?_) (fun hlt => ?_)
 ·
  obtain ⟨r, hr⟩ : ∃ r, x.rows[i]? = some r := ⟨_, List.getElem?_eq_getElem hlt⟩
  obtain ⟨g, off, cur, T, zz, rfl, hm9, hsz9, hex9⟩ := hg i r hr
  refine at_skip <| Zx <| Zq <| at_block <| Zq <| Zg <| Zm Y ?_
  (refine op_v (p_indexAddr_nat underlying38 sizeOf67 Y Y ?_) ?_; (focus (first | omega | decide | (simp; done))))
  refine op_rm (cs := [(g, .cells cur T zz)]) (by simp [hm9]) (p_load_agg (cs := #[.int .i64 r.t, .int .i64 r.k, .int .i64 r.v.a, .int .i64 r.v.b, .int .i64 r.v.c]) isAgg67 sizeOf67 Y (by omega) hex9) rfl rfl ?_
  refine Ze (w_alloc zeroValue67 (cs := #[_, _, _, _, _]) rfl) ?_
  rintro _ _ ⟨rb, rfl, rfl⟩
  refine Za Y <| Xe (w_store_agg sizeOf67 Y Y (by (simp [Value.oneCell']; done)) Wu (by exact (rfl : _ = (#[.int .i64 r.t, .int .i64 r.k, .int .i64 r.v.a, .int .i64 r.v.b, .int .i64 r.v.c] : Array Value))) (by first | rfl | (simp; done)) Wb (by exact free_zero _)) ?_
  refine Z0 <| Zx <| Zq <| Zg <| Zm Y <| Zm Y <| Xr [_] Y call142 Y rfl (value_spec x vp vt hR (by omega) pb i r hr) ?_
  refine Za Y <| Z0 <| Zx <| Zb [1, 3, 4, 5, 6, 7, 62, 63, 64] ?_
  refine at_cutB (e0 := []) (H0 := []) (fun e H => ∃ (u9 : Unit), (RowFits x i r) ∧ e = [] ∧ H = []) Wp ?hx_10 ?hy_10
  case hx_10 =>
   refine Zq <| Zg <| Zo Wh (p_load_agg (cs := #[_, _, _, _, _]) isAgg67 sizeOf67 Y Wb (by rfl)) ?_
   refine Xr [_] Y call112 Y rfl (rw_valid r) ?_
   refine Zv (p_not_dec Y) <| Zm Y ?_
   refine ops_split (t := 75) Y rfl (fun hc8 => ?_) (fun hc8 => ?_)
   ·
    refine op_skip Y rfl <| op_skip Y rfl <| op_skip Y rfl <| op_skip Y rfl <| op_skip Y rfl <| Zv (p_pick_t Y Y) <| Zm Y <| op_skip Y rfl <| op_skip Y rfl <| op_skip Y rfl <| op_skip Y rfl <| op_skip Y rfl <| op_skip Y rfl <| op_skip Y rfl <| op_skip Y rfl <| Zv (p_pick_t Y Y) <| Zm Y <| op_skip Y rfl <| op_skip Y rfl <| op_skip Y rfl <| op_skip Y rfl <| op_skip Y rfl <| op_skip Y rfl <| op_skip Y rfl ?_
    refine op_skip Y rfl <| op_skip Y rfl <| op_skip Y rfl <| Zv (p_pick_t Y Y) <| Z0 <| Zn [1, 3, 4, 5, 6, 7, 62, 63, 64, 103] ?_
    refine Zx <| at_then Y <| Zq <| Zg <| Za Y <| Z0 <| Zx <| at_ret <| Zt <| nx_block_ret <| Zt <| Zt <| nx_block_ret <| Zt ?_
    refine nx_end1 rfl results110 Y (by exact ⟨congrArg Value.bool (decide_eq_false (fun h9 : Comp x => by obtain ⟨⟨h91, h92, h93, h94⟩, _⟩ := h9.all i r hr; first | omega | contradiction)).symm, rfl⟩)
   refine Yf 0 underlying67 rfl rfl sizeOf3 Y <| Yl isAgg3 Y ?_
   refine Yf 0 underlying79 rfl rfl sizeOf3 Y <| Yl isAgg3 Y ?_
   refine Yg (p_neq Y Y) <| Zv (p_pick_f Y Y) <| Zm Y ?_
   refine ops_split (t := 82) Y rfl (fun hc9 => ?_) (fun hc9 => ?_)
   ·
    refine op_skip Y rfl <| op_skip Y rfl <| op_skip Y rfl <| op_skip Y rfl <| op_skip Y rfl <| op_skip Y rfl <| op_skip Y rfl <| op_skip Y rfl <| Zv (p_pick_t Y Y) <| Zm Y <| op_skip Y rfl <| op_skip Y rfl <| op_skip Y rfl <| op_skip Y rfl <| op_skip Y rfl <| op_skip Y rfl <| op_skip Y rfl <| op_skip Y rfl <| op_skip Y rfl <| op_skip Y rfl <| Zv (p_pick_t Y Y) <| Z0 <| Zn [1, 3, 4, 5, 6, 7, 62, 63, 64, 103] ?_
    refine Zx <| at_then Y <| Zq <| Zg <| Za Y <| Z0 <| Zx <| at_ret <| Zt <| nx_block_ret <| Zt <| Zt <| nx_block_ret <| Zt ?_
    refine nx_end1 rfl results110 Y (by exact ⟨congrArg Value.bool (decide_eq_false (fun h9 : Comp x => by obtain ⟨⟨h91, h92, h93, h94⟩, _⟩ := h9.all i r hr; first | omega | contradiction)).symm, rfl⟩)
   refine Zf Y Y <| Yf 2 underlying79 rfl rfl sizeOf3 Y <| Yl isAgg3 Y ?_
   refine Yg (p_lss Y Y) <| Zf Y Y ?_
   refine ops_split (t := 87) Y rfl (fun hc10 => ?_) (fun hc10 => ?_)
   ·
    refine Zf Y Y <| Yg (p_gtr_nat (n := 0) Y Y) <| Yg (p_pick_t Y Y) <| Zv (p_pick_f Y Y) <| Zm Y ?_
    refine ops_split (t := 92) Y rfl (fun hc11 => ?_) (fun hc11 => ?_)
    ·
     refine op_skip Y rfl <| op_skip Y rfl <| op_skip Y rfl <| op_skip Y rfl <| op_skip Y rfl <| op_skip Y rfl <| op_skip Y rfl <| op_skip Y rfl <| op_skip Y rfl <| op_skip Y rfl <| Zv (p_pick_t Y Y) <| Z0 <| Zn [1, 3, 4, 5, 6, 7, 62, 63, 64, 103] ?_
     refine Zx <| at_then Y <| Zq <| Zg <| Za Y <| Z0 <| Zx <| at_ret <| Zt <| nx_block_ret <| Zt <| Zt <| nx_block_ret <| Zt ?_
     refine nx_end1 rfl results110 Y (by exact ⟨congrArg Value.bool (decide_eq_false (fun h9 : Comp x => by obtain ⟨⟨h91, h92, h93, h94⟩, _⟩ := h9.all i r hr; first | omega | contradiction)).symm, rfl⟩)
    refine Zf Y Y <| Yf 3 underlying79 rfl rfl sizeOf3 Y <| Yl isAgg3 Y ?_
    refine Yg (p_gtr Y Y) <| Zf Y Y ?_
    refine ops_split (t := 97) Y rfl (fun hc12 => ?_) (fun hc12 => ?_)
    ·
     refine Zf Y Y <| Zf Y Y ?_
     (refine op_wg Y (p_sub_nat (n := 1) Y Y ?_ ?_) rfl rfl ?_; (focus (first | omega | (simp; omega))); (focus (first | omega | (simp; omega))))
     refine Yg (p_lss_nat Y Y) <| Yg (p_pick_t Y Y) <| Zv (p_pick_f Y Y) <| Z0 <| Zn [1, 3, 4, 5, 6, 7, 62, 63, 64, 103] ?_
     refine Zx ?_
     refine at_if Y (fun hc13 => ?_) (fun hc13 => ?_)
     ·
      refine Zq <| Zg <| Za Y <| Z0 <| Zx <| at_ret <| Zt <| nx_block_ret <| Zt <| Zt <| nx_block_ret <| Zt ?_
      refine nx_end1 rfl results110 Y (by exact ⟨congrArg Value.bool (decide_eq_false (fun h9 : Comp x => by obtain ⟨⟨h91, h92, h93, h94⟩, _⟩ := h9.all i r hr; first | omega | contradiction)).symm, rfl⟩)
     refine at_skip <| Zn [1, 3, 4, 5, 6, 7, 62, 63, 64] ?_
     refine nx_cutB (e' := []) (H' := _) (by exact ⟨(), ⟨by exact Classical.not_not.1 (by assumption), by omega, fun h => by omega, fun h => by omega⟩, rfl, rfl⟩)
    refine op_skip Y rfl <| op_skip Y rfl <| op_skip Y rfl <| op_skip Y rfl <| Yg (p_pick_f Y Y) <| Zv (p_pick_f Y Y) <| Z0 <| Zn [1, 3, 4, 5, 6, 7, 62, 63, 64, 103] ?_
    refine Zx <| at_else Y <| at_skip <| Zn [1, 3, 4, 5, 6, 7, 62, 63, 64] ?_
    refine nx_cutB (e' := []) (H' := _) (by exact ⟨(), ⟨by exact Classical.not_not.1 (by assumption), by omega, fun h => by omega, fun h => by omega⟩, rfl, rfl⟩)
   refine op_skip Y rfl <| op_skip Y rfl <| Yg (p_pick_f Y Y) <| Zv (p_pick_f Y Y) <| Zm Y <| Zf Y Y <| Yf 3 underlying79 rfl rfl sizeOf3 Y <| Yl isAgg3 Y ?_
   refine Yg (p_gtr Y Y) <| Zf Y Y ?_
   refine ops_split (t := 97) Y rfl (fun hc14 => ?_) (fun hc14 => ?_)
   ·
    refine Zf Y Y <| Zf Y Y ?_
    (refine op_wg Y (p_sub_nat (n := 1) Y Y ?_ ?_) rfl rfl ?_; (focus (first | omega | (simp; omega))); (focus (first | omega | (simp; omega))))
    refine Yg (p_lss_nat Y Y) <| Yg (p_pick_t Y Y) <| Zv (p_pick_f Y Y) <| Z0 <| Zn [1, 3, 4, 5, 6, 7, 62, 63, 64, 103] ?_
    refine Zx ?_
    refine at_if Y (fun hc15 => ?_) (fun hc15 => ?_)
    ·
     refine Zq <| Zg <| Za Y <| Z0 <| Zx <| at_ret <| Zt <| nx_block_ret <| Zt <| Zt <| nx_block_ret <| Zt ?_
     refine nx_end1 rfl results110 Y (by exact ⟨congrArg Value.bool (decide_eq_false (fun h9 : Comp x => by obtain ⟨⟨h91, h92, h93, h94⟩, _⟩ := h9.all i r hr; first | omega | contradiction)).symm, rfl⟩)
    refine at_skip <| Zn [1, 3, 4, 5, 6, 7, 62, 63, 64] ?_
    refine nx_cutB (e' := []) (H' := _) (by exact ⟨(), ⟨by exact Classical.not_not.1 (by assumption), by omega, fun h => by omega, fun h => by omega⟩, rfl, rfl⟩)
   refine op_skip Y rfl <| op_skip Y rfl <| op_skip Y rfl <| op_skip Y rfl <| Yg (p_pick_f Y Y) <| Zv (p_pick_f Y Y) <| Z0 <| Zn [1, 3, 4, 5, 6, 7, 62, 63, 64, 103] ?_
   refine Zx <| at_else Y <| at_skip <| Zn [1, 3, 4, 5, 6, 7, 62, 63, 64] ?_
   refine nx_cutB (e' := []) (H' := _) (by exact ⟨(), ⟨by exact Classical.not_not.1 (by assumption), by omega, fun h => by omega, fun h => by omega⟩, rfl, rfl⟩)
  rintro _ _ ⟨u9, hfit, rfl, rfl⟩
  refine Zq <| at_draw (n := 30) (0 :: 1 :: 3 :: 7 :: 7 :: 7 :: 39 :: 119 :: 255 :: 511 :: 1023 :: 1023 :: 1023 :: 5119 :: 15359 :: 32767 :: 65535 :: 131071 :: 262143 :: 131071 :: 655359 :: 131071 :: 2228223 :: 7995391 :: 16383999 :: 33161215 :: 67108863 :: 134217727 :: 268435455 :: 536870911 :: []) 16512 (by kernel_rfl) (by kernel_rfl) rfl ?_
  refine Zi 1 0 rfl (p_move Y) <| Zi 3 1 rfl (p_gtr_nat (n := 0) Y Y) <| Zi 7 2 rfl (p_move Y) ?_
  refine lin_split (t := 106) Y (fun hi0 => ?_) (fun hi0 => ?_)
  ·
   first | rw [decide_eq_true hi0] | rw [hi0] | skip
   obtain ⟨q, hq⟩ : ∃ q, x.rows[i - 1]? = some q := ⟨_, List.getElem?_eq_getElem (by omega)⟩
   obtain ⟨g2, off2, cur2, T2, zz2, e29, hm29, hsz29, hex29⟩ := hg (i - 1) q hq
   injection e29 with e29
   injection e29 with e291 e292
   subst e291 e292
   have hkq : cur2[off + (i - 1) * 5 + 1]? = some (.int .i64 q.k) := by rw [ext_cell hex29 hsz29 1 (by omega)]; rfl
   refine lin_wg (D' := 15) 3 Y rfl rfl rfl (p_move Y) ?_
   refine lin_wg (D' := 31) 4 Y rfl rfl rfl (p_move Y) ?_
   refine lin_wg (D' := 63) 5 Y rfl rfl rfl (p_move Y) ?_
   (refine lin_wg (D' := 127) 6 Y rfl rfl rfl (p_sub_nat (n := 1) Y Y ?_ ?_) ?_; (focus (first | omega | (simp; omega))); (focus (first | omega | (simp; omega))))
   refine Yz 7 119 255 [] [] [] rfl Y rfl rfl rfl rfl (Zu [_] Y call142 Y rfl (value_spec x vp vt hR (by omega) pb (i - 1) q hq)) ?_
   rintro _ _ ⟨rfl, rfl⟩
   refine ⟨keep_nil, ?_⟩
   refine lin_wg (D' := 511) 8 Y rfl rfl rfl (p_lss Y Y) ?_
   refine lin_wg (D' := 1023) 9 Y rfl rfl rfl (p_move Y) ?_
   refine lin_split (t := 113) Y (fun hvw => ?_) (fun hvw => ?_)
   ·
    first | rw [decide_eq_true hvw] | rw [hvw] | skip
    refine Yk 2047 10 rfl <| Yk 4095 11 rfl <| Yk 8191 12 rfl <| Yk 16383 13 rfl <| Yk 32767 14 rfl <| Yk 65535 15 rfl <| Yk 131071 16 rfl <| Yk 262143 17 rfl <| Yk 524287 18 rfl <| Yk 1048575 19 rfl <| Yk 2097151 20 rfl <| Yk 4194303 21 rfl <| Yk 8388607 22 rfl <| Yk 16777215 23 rfl <| Yk 33554431 24 rfl <| Yk 67108863 25 rfl <| Yk 134217727 26 rfl <| Yk 268435455 27 rfl <| lin_wg (D' := 536870911) 28 Y rfl rfl rfl (p_pick_t Y Y) ?_
    refine Zi 1073741823 29 rfl (p_pick_t Y Y) <| lin_nil ?_
    refine Zn [1, 3, 4, 62, 63, 64, 133] ?_
    refine Zx <| at_then Y <| Zq <| Zg <| Za Y <| Z0 <| Zx <| at_ret <| nx_block_ret <| Zt <| Zt <| nx_block_ret <| Zt ?_
    refine nx_end1 rfl results110 Y (by exact ⟨congrArg Value.bool (decide_eq_false (fun h9 : Comp x => by have ha := (h9.all i r hr).2 hi0 q hq; unfold After at ha; omega)).symm, rfl⟩)
   first | rw [decide_eq_false hvw] | rw [hvw] | skip
   refine lin_wg (D' := 2047) 10 Y rfl rfl rfl (p_move Y) ?_
   refine lin_wg (D' := 4095) 11 Y rfl rfl rfl (p_move Y) ?_
   refine lin_wg (D' := 8191) 12 Y rfl rfl rfl (p_move Y) ?_
   (refine lin_wg (D' := 16383) 13 Y rfl rfl rfl (p_sub_nat (n := 1) Y Y ?_ ?_) ?_; (focus (first | omega | (simp; omega))); (focus (first | omega | (simp; omega))))
   refine Yz 14 15359 32767 [] [] [] rfl Y rfl rfl rfl rfl (Zu [_] Y call142 Y rfl (value_spec x vp vt hR (by omega) pb (i - 1) q hq)) ?_
   rintro _ _ ⟨rfl, rfl⟩
   refine ⟨keep_nil, ?_⟩
   refine lin_wg (D' := 65535) 15 Y rfl rfl rfl (p_eql Y Y) ?_
   refine lin_wg (D' := 131071) 16 Y rfl rfl rfl (p_move Y) ?_
   refine lin_split (t := 120) Y (fun hvq => ?_) (fun hvq => ?_)
   ·
    first | rw [decide_eq_true hvq] | rw [hvq] | skip
    refine lin_wg (D' := 262143) 17 Y rfl rfl rfl (p_fieldAddr0 (off := 1) underlying67 rfl rfl sizeOf3 Y) ?_
    refine lin_rg (D' := 524287) 18 Y rfl rfl rfl Wh (p_load isAgg3 Y (by rfl)) ?_
    refine lin_wg (D' := 1048575) 19 Y rfl rfl rfl (p_fieldAddr0 (off := 6) underlying79 rfl rfl sizeOf38 Y) ?_
    refine lin_rg (D' := 2097151) 20 Y rfl rfl rfl Wh (p_load isAgg38 Y (by rfl)) ?_
    refine lin_wg (D' := 4194303) 21 Y rfl rfl rfl (p_move Y) ?_
    (refine lin_wg (D' := 8388607) 22 Y rfl rfl rfl (p_sub_nat (n := 1) Y Y ?_ ?_) ?_; (focus (first | omega | (simp; omega))); (focus (first | omega | (simp; omega))))
    (refine lin_wg (D' := 16777215) 23 Y rfl rfl rfl (p_indexAddr_nat underlying38 sizeOf67 Y Y ?_) ?_; (focus (first | omega | decide | (simp; done))))
    refine lin_wg (D' := 33554431) 24 Y rfl rfl rfl (p_fieldAddr1 (off := 1) underlying67 rfl rfl sizeOf3 Y) ?_
    refine lin_rgm (b := g) (x := .cells cur2 T2 zz2) (D' := 67108863) 25 Y rfl rfl rfl (by simp [hm29]) (p_load isAgg3 Y (by first | exact hkq | simpa using hkq)) ?_
    refine lin_wg (D' := 134217727) 26 Y rfl rfl rfl (p_leq Y Y) ?_
    refine lin_wg (D' := 268435455) 27 Y rfl rfl rfl (p_pick_t Y Y) ?_
    refine lin_wg (D' := 536870911) 28 Y rfl rfl rfl (p_pick_f Y Y) ?_
    refine Zi 1073741823 29 rfl (p_pick_t Y Y) <| lin_nil ?_
    refine Zn [1, 3, 4, 62, 63, 64, 133] ?_
    refine Zx ?_
    refine at_if Y (fun hkk => ?_) (fun hkk => ?_)
    ·
     refine Zq <| Zg <| Za Y <| Z0 <| Zx <| at_ret <| nx_block_ret <| Zt <| Zt <| nx_block_ret <| Zt ?_
     refine nx_end1 rfl results110 Y (by exact ⟨congrArg Value.bool (decide_eq_false (fun h9 : Comp x => by have ha := (h9.all i r hr).2 hi0 q hq; unfold After at ha; omega)).symm, rfl⟩)
    refine at_skip <| nx_block_normal <| Zx <| Zg <| Ya (n := 1) Y Y <| Zm Y <| Z0 <| Zn [64, 1, 3, 4, 62, 63] ?_
    refine nx_againB (e' := [(64, _)]) (m := _) (H' := _) (by
          exact ⟨i + 1, rfl, ⟨by omega, fun j r9 hj hr9 => by
            rcases Nat.lt_or_ge j i with h9 | h9
            · exact hall j r9 h9 hr9
            · obtain rfl : j = i := (by omega)
              rw [hr] at hr9; injection hr9 with hr9; subst hr9
              refine ⟨hfit, fun hj0 q9 hq9 => ?_⟩
              (rw [hq] at hq9; injection hq9 with hq9; subst hq9; unfold After; omega)⟩, rfl, rfl⟩)
   first | rw [decide_eq_false hvq] | rw [hvq] | skip
   refine Yk 262143 17 rfl <| Yk 524287 18 rfl <| Yk 1048575 19 rfl <| Yk 2097151 20 rfl <| Yk 4194303 21 rfl <| Yk 8388607 22 rfl <| Yk 16777215 23 rfl <| Yk 33554431 24 rfl <| Yk 67108863 25 rfl <| Yk 134217727 26 rfl <| lin_wg (D' := 268435455) 27 Y rfl rfl rfl (p_pick_f Y Y) ?_
   refine lin_wg (D' := 536870911) 28 Y rfl rfl rfl (p_pick_f Y Y) ?_
   refine Zi 1073741823 29 rfl (p_pick_t Y Y) <| lin_nil ?_
   refine Zn [1, 3, 4, 62, 63, 64, 133] ?_
   refine Zx <| at_else Y <| at_skip <| nx_block_normal <| Zx <| Zg <| Ya (n := 1) Y Y <| Zm Y <| Z0 <| Zn [64, 1, 3, 4, 62, 63] ?_
   refine nx_againB (e' := [(64, _)]) (m := _) (H' := _) (by
         exact ⟨i + 1, rfl, ⟨by omega, fun j r9 hj hr9 => by
           rcases Nat.lt_or_ge j i with h9 | h9
           · exact hall j r9 h9 hr9
           · obtain rfl : j = i := (by omega)
             rw [hr] at hr9; injection hr9 with hr9; subst hr9
             refine ⟨hfit, fun hj0 q9 hq9 => ?_⟩
             (rw [hq] at hq9; injection hq9 with hq9; subst hq9; unfold After; omega)⟩, rfl, rfl⟩)
  first | rw [decide_eq_false hi0] | rw [hi0] | skip
  refine Yk 15 3 rfl <| Yk 31 4 rfl <| Yk 63 5 rfl <| Yk 127 6 rfl <| Yk 255 7 rfl <| Yk 511 8 rfl <| Yk 1023 9 rfl <| Yk 2047 10 rfl <| Yk 4095 11 rfl <| Yk 8191 12 rfl <| Yk 16383 13 rfl <| Yk 32767 14 rfl <| Yk 65535 15 rfl <| Yk 131071 16 rfl <| Yk 262143 17 rfl <| Yk 524287 18 rfl <| Yk 1048575 19 rfl <| Yk 2097151 20 rfl <| Yk 4194303 21 rfl <| Yk 8388607 22 rfl <| Yk 16777215 23 rfl <| Yk 33554431 24 rfl <| Yk 67108863 25 rfl <| Yk 134217727 26 rfl ?_
  refine Yk 268435455 27 rfl <| Yk 536870911 28 rfl <| Zi 1073741823 29 rfl (p_pick_f Y Y) <| lin_nil ?_
  refine Zn [1, 3, 4, 62, 63, 64, 133] ?_
  refine Zx <| at_else Y <| at_skip <| nx_block_normal <| Zx <| Zg <| Ya (n := 1) Y Y <| Zm Y <| Z0 <| Zn [64, 1, 3, 4, 62, 63] ?_
  refine nx_againB (e' := [(64, _)]) (m := _) (H' := _) (by
        exact ⟨i + 1, rfl, ⟨by omega, fun j r9 hj hr9 => by
          rcases Nat.lt_or_ge j i with h9 | h9
          · exact hall j r9 h9 hr9
          · obtain rfl : j = i := (by omega)
            rw [hr] at hr9; injection hr9 with hr9; subst hr9
            refine ⟨hfit, fun hj0 q9 hq9 => ?_⟩
            (exfalso; omega)⟩, rfl, rfl⟩)
 obtain ⟨r0, hr0⟩ : ∃ r, x.rows[0]? = some r := ⟨_, List.getElem?_eq_getElem (by omega)⟩
 obtain ⟨rl, hrl⟩ : ∃ r, x.rows[x.rows.length - 1]? = some r := ⟨_, List.getElem?_eq_getElem (by omega)⟩
 have hcomp : Comp x ↔ (x.fi = 0 ∨ valL r0 x.cl < x.lo) ∧ (x.fi + (x.rows.length : Int) = x.ct ∨ x.hi < valL rl x.cl) := ⟨fun h => ⟨h.first r0 hr0, h.last rl hrl⟩, fun h => ⟨by omega, by omega, by omega, by omega, by omega, fun h0 => absurd h0 hz, fun j r hj => hall j r (by have := (List.getElem?_eq_some_iff.1 hj).1; omega) hj, fun r hj => by rw [hr0] at hj; injection hj with hj; rw [← hj]; exact h.1, fun r hj => by rw [hrl] at hj; injection hj with hj; rw [← hj]; exact h.2⟩⟩
 refine at_exit <| Zt <| Zt <| nx_block_exit <| Zx <| Zq <| at_draw (n := 29) (0 :: 1 :: 3 :: 7 :: 15 :: 31 :: 15 :: 79 :: 255 :: 511 :: 1023 :: 2047 :: 4095 :: 2047 :: 16383 :: 2047 :: 34815 :: 131071 :: 262143 :: 524287 :: 524287 :: 1572863 :: 4194303 :: 524287 :: 8912895 :: 33554431 :: 67108863 :: 134217727 :: 268435455 :: []) 4194336 (by kernel_rfl) (by kernel_rfl) rfl ?_
 refine Zi 1 0 rfl (p_fieldAddr0 (off := 5) underlying79 rfl rfl sizeOf3 Y) <| Zj 3 1 rfl isAgg3 Y ?_
 refine Zi 7 2 rfl (p_eql Y Y) <| Zi 15 3 rfl (p_move Y) ?_
 refine lin_split (t := 138) Y (fun hc16 => ?_) (fun hc16 => ?_)
 ·
  first | rw [decide_eq_true hc16] | rw [hc16] | skip
  refine Yk 31 4 rfl <| Yk 63 5 rfl <| Yk 127 6 rfl <| Yk 255 7 rfl <| Yk 511 8 rfl <| Zi 1023 9 rfl (p_pick_t Y Y) <| Zi 2047 10 rfl (p_move Y) <| lin_wg (D' := 4095) 11 Y rfl rfl rfl (p_fieldAddr0 (off := 5) underlying79 rfl rfl sizeOf3 Y) ?_
  refine lin_rg (D' := 8191) 12 Y rfl rfl rfl Wh (p_load isAgg3 Y (by rfl)) ?_
  refine lin_wg (D' := 16383) 13 Y rfl rfl rfl (p_move Y) ?_
  (refine lin_wg (D' := 32767) 14 Y rfl rfl rfl (p_add Y Y (IntWalk.i64_in _ ?_)) ?_; (focus (first | omega | (simp; omega))))
  refine lin_wg (D' := 65535) 15 Y rfl rfl rfl (p_fieldAddr0 (off := 4) underlying79 rfl rfl sizeOf3 Y) ?_
  refine lin_rg (D' := 131071) 16 Y rfl rfl rfl Wh (p_load isAgg3 Y (by rfl)) ?_
  refine lin_wg (D' := 262143) 17 Y rfl rfl rfl (p_eql Y Y) ?_
  refine lin_wg (D' := 524287) 18 Y rfl rfl rfl (p_move Y) ?_
  refine lin_split (t := 153) Y (fun hc17 => ?_) (fun hc17 => ?_)
  ·
   first | rw [decide_eq_true hc17] | rw [hc17] | skip
   refine Yk 1048575 19 rfl <| Yk 2097151 20 rfl <| Yk 4194303 21 rfl <| Yk 8388607 22 rfl <| Yk 16777215 23 rfl <| Yk 33554431 24 rfl <| Yk 67108863 25 rfl <| lin_wg (D' := 134217727) 26 Y rfl rfl rfl (p_pick_t Y Y) ?_
   refine Zi 268435455 27 rfl (p_pick_t Y Y) <| Zi 536870911 28 rfl (p_assign Y) <| lin_nil ?_
   refine Zn [2] ?_
   refine Zx <| at_ret ?_
   refine nx_end1 rfl results110 Y (by exact ⟨by exact congrArg Value.bool (decide_eq_true (hcomp.2 ⟨by omega, by omega⟩)).symm, rfl⟩)
  first | rw [decide_eq_false hc17] | rw [hc17] | skip
  refine lin_wg (D' := 1048575) 19 Y rfl rfl rfl (p_move Y) ?_
  refine lin_wg (D' := 2097151) 20 Y rfl rfl rfl (p_move Y) ?_
  (refine lin_wg (D' := 4194303) 21 Y rfl rfl rfl (p_sub_nat (n := 1) Y Y ?_ ?_) ?_; (focus (first | omega | (simp; omega))); (focus (first | omega | (simp; omega))))
  refine lin_wg (D' := 12582911) 23 Y rfl rfl rfl (p_fieldAddr0 (off := 3) underlying79 rfl rfl sizeOf3 Y) ?_
  refine lin_rg (D' := 29360127) 24 Y rfl rfl rfl Wh (p_load isAgg3 Y (by rfl)) ?_
  refine Yz 22 4194303 33554431 [24, 16, 12, 1] [true, false, false, false] [(24, (_, _))] rfl Y rfl rfl rfl rfl (Zu [_] Y call142 Y rfl (value_spec x vp vt hR (by omega) pb (x.rows.length - 1) rl hrl)) ?_
  rintro _ _ ⟨rfl, rfl⟩
  refine ⟨Zk (keep_nil), ?_⟩
  refine lin_wg (D' := 67108863) 25 Y rfl rfl rfl (p_gtr Y Y) ?_
  refine lin_wg (D' := 134217727) 26 Y rfl rfl rfl (p_pick_f Y Y) ?_
  refine Zi 268435455 27 rfl (p_pick_t Y Y) <| Zi 536870911 28 rfl (p_assign Y) <| lin_nil ?_
  refine Zn [2] ?_
  refine Zx <| at_ret ?_
  refine nx_end1 rfl results110 Y (by exact ⟨by exact dec_bool ⟨fun h9 => hcomp.2 ⟨by omega, by omega⟩, fun h9 => by have := hcomp.1 h9; omega⟩, rfl⟩)
 first | rw [decide_eq_false hc16] | rw [hc16] | skip
 refine lin_wg (D' := 31) 4 Y rfl rfl rfl (p_move Y) ?_
 refine lin_wg (D' := 95) 6 Y rfl rfl rfl (p_fieldAddr0 (off := 2) underlying79 rfl rfl sizeOf3 Y) ?_
 refine lin_rg (D' := 223) 7 Y rfl rfl rfl Wh (p_load isAgg3 Y (by rfl)) ?_
 refine Yz 5 31 255 [7, 1] [true, false] [(7, (_, _))] rfl Y rfl rfl rfl rfl (Zu [_] Y call142 Y rfl (value_spec x vp vt hR (by omega) pb 0 r0 hr0)) ?_
 rintro _ _ ⟨rfl, rfl⟩
 refine ⟨Zk (keep_nil), ?_⟩
 refine lin_wg (D' := 511) 8 Y rfl rfl rfl (p_lss Y Y) ?_
 refine Zi 1023 9 rfl (p_pick_f Y Y) <| Zi 2047 10 rfl (p_move Y) ?_
 refine lin_split (t := 145) Y (fun hc18 => ?_) (fun hc18 => ?_)
 ·
  first | rw [decide_eq_true hc18] | rw [hc18] | skip
  refine lin_wg (D' := 4095) 11 Y rfl rfl rfl (p_fieldAddr0 (off := 5) underlying79 rfl rfl sizeOf3 Y) ?_
  refine lin_rg (D' := 8191) 12 Y rfl rfl rfl Wh (p_load isAgg3 Y (by rfl)) ?_
  refine lin_wg (D' := 16383) 13 Y rfl rfl rfl (p_move Y) ?_
  (refine lin_wg (D' := 32767) 14 Y rfl rfl rfl (p_add Y Y (IntWalk.i64_in _ ?_)) ?_; (focus (first | omega | (simp; omega))))
  refine lin_wg (D' := 65535) 15 Y rfl rfl rfl (p_fieldAddr0 (off := 4) underlying79 rfl rfl sizeOf3 Y) ?_
  refine lin_rg (D' := 131071) 16 Y rfl rfl rfl Wh (p_load isAgg3 Y (by rfl)) ?_
  refine lin_wg (D' := 262143) 17 Y rfl rfl rfl (p_eql Y Y) ?_
  refine lin_wg (D' := 524287) 18 Y rfl rfl rfl (p_move Y) ?_
  refine lin_split (t := 153) Y (fun hc19 => ?_) (fun hc19 => ?_)
  ·
   first | rw [decide_eq_true hc19] | rw [hc19] | skip
   refine Yk 1048575 19 rfl <| Yk 2097151 20 rfl <| Yk 4194303 21 rfl <| Yk 8388607 22 rfl <| Yk 16777215 23 rfl <| Yk 33554431 24 rfl <| Yk 67108863 25 rfl <| lin_wg (D' := 134217727) 26 Y rfl rfl rfl (p_pick_t Y Y) ?_
   refine Zi 268435455 27 rfl (p_pick_t Y Y) <| Zi 536870911 28 rfl (p_assign Y) <| lin_nil ?_
   refine Zn [2] ?_
   refine Zx <| at_ret ?_
   refine nx_end1 rfl results110 Y (by exact ⟨by exact congrArg Value.bool (decide_eq_true (hcomp.2 ⟨by omega, by omega⟩)).symm, rfl⟩)
  first | rw [decide_eq_false hc19] | rw [hc19] | skip
  refine lin_wg (D' := 1048575) 19 Y rfl rfl rfl (p_move Y) ?_
  refine lin_wg (D' := 2097151) 20 Y rfl rfl rfl (p_move Y) ?_
  (refine lin_wg (D' := 4194303) 21 Y rfl rfl rfl (p_sub_nat (n := 1) Y Y ?_ ?_) ?_; (focus (first | omega | (simp; omega))); (focus (first | omega | (simp; omega))))
  refine lin_wg (D' := 12582911) 23 Y rfl rfl rfl (p_fieldAddr0 (off := 3) underlying79 rfl rfl sizeOf3 Y) ?_
  refine lin_rg (D' := 29360127) 24 Y rfl rfl rfl Wh (p_load isAgg3 Y (by rfl)) ?_
  refine Yz 22 4194303 33554431 [24, 16, 12, 7] [true, false, false, false] [(24, (_, _))] rfl Y rfl rfl rfl rfl (Zu [_] Y call142 Y rfl (value_spec x vp vt hR (by omega) pb (x.rows.length - 1) rl hrl)) ?_
  rintro _ _ ⟨rfl, rfl⟩
  refine ⟨Zk (keep_nil), ?_⟩
  refine lin_wg (D' := 67108863) 25 Y rfl rfl rfl (p_gtr Y Y) ?_
  refine lin_wg (D' := 134217727) 26 Y rfl rfl rfl (p_pick_f Y Y) ?_
  refine Zi 268435455 27 rfl (p_pick_t Y Y) <| Zi 536870911 28 rfl (p_assign Y) <| lin_nil ?_
  refine Zn [2] ?_
  refine Zx <| at_ret ?_
  refine nx_end1 rfl results110 Y (by exact ⟨by exact dec_bool ⟨fun h9 => hcomp.2 ⟨by omega, by omega⟩, fun h9 => by have := hcomp.1 h9; omega⟩, rfl⟩)
 first | rw [decide_eq_false hc18] | rw [hc18] | skip
 refine Yk 4095 11 rfl <| Yk 8191 12 rfl <| Yk 16383 13 rfl <| Yk 32767 14 rfl <| Yk 65535 15 rfl <| Yk 131071 16 rfl <| Yk 262143 17 rfl <| Yk 524287 18 rfl <| Yk 1048575 19 rfl <| Yk 2097151 20 rfl <| Yk 4194303 21 rfl <| Yk 8388607 22 rfl <| Yk 16777215 23 rfl <| Yk 33554431 24 rfl <| Yk 67108863 25 rfl <| Yk 134217727 26 rfl <| Zi 268435455 27 rfl (p_pick_f Y Y) <| Zi 536870911 28 rfl (p_assign Y) <| lin_nil ?_
 refine Zn [2] ?_
 refine Zx <| at_ret ?_
 refine nx_end1 rfl results110 Y (by exact ⟨by exact congrArg Value.bool (decide_eq_false (fun h9 => by have := hcomp.1 h9; omega)).symm, rfl⟩)

def inB (x : RP) (r : RowM) : Bool := decide (x.lo ≤ valL r x.cl ∧ valL r x.cl ≤ x.hi)
noncomputable def rowsT (x : RP) : List RowM := if Comp x then x.rows.filter (inB x) else []
theorem rows_t {x : RP} (h : Comp x) : rowsT x = x.rows.filter (inB x) := if_pos h
theorem rows_f {x : RP} (h : ¬ Comp x) : rowsT x = [] := if_neg h
theorem filt_t {x : RP} {i : Nat} {r : RowM} (hr : x.rows[i]? = some r) (h : inB x r = true) : (x.rows.take (i + 1)).filter (inB x) = (x.rows.take i).filter (inB x) ++ [r] := by rw [take_snoc hr, List.filter_append]; simp [h]
theorem filt_f {x : RP} {i : Nat} {r : RowM} (hr : x.rows[i]? = some r) (h : inB x r = false) : (x.rows.take (i + 1)).filter (inB x) = (x.rows.take i).filter (inB x) := by rw [take_snoc hr, List.filter_append]; simp [h]

set_option maxHeartbeats 4000000 in
theorem rows_spec {M : List Chunk} {v : Value} {x : RP} (hv : RPIn M v x) : Does Tryz.prog 65 #[v] [M] (fun r H' => ∃ vr sr, r = .tuple #[vr, .bool (decide (Comp x))] ∧ RowS 5 67 vr (rowsT x).length (rowCells (rowsT x)) sr ∧ H' = [sr, M]) := by
 have hml : maxLen = 9223372036854775807 := rfl
 obtain ⟨vr, vp, vt, rfl, hR, hP, hT⟩ := id hv
 obtain ⟨p, cap, e9, hl, hg⟩ := id hR
 subst e9
 refine spec_enter func65 rfl ntmps65 rfl ?_
 intro u R
 refine Zb [0] ?_
 refine Zq <| Zg <| Ze (w_box Y (cs := #[_, _, _, _, _, _, _, _, _]) rfl) ?_
 rintro _ _ ⟨pb, rfl, rfl⟩
 refine Za Y <| Za Y <| Z0 <| Zx <| Zq <| Zq <| Zg <| Zo Wh (p_load_agg (cs := #[.int .i64 x.tb, .int .i64 x.cl, .int .i64 x.lo, .int .i64 x.hi, .int .i64 x.ct, .int .i64 x.fi, .slice p x.rows.length cap, vp, vt]) isAgg79 sizeOf79 Y Wb (by rfl)) ?_
 refine Xr [_] Y call110 Y rfl (complete_spec hv) ?_
 refine Zv (p_not_dec Y) <| Z0 <| Zx ?_
 refine at_if Y (fun hcm => ?_) (fun hcm => ?_)
 ·
  refine at_nil ?_
  refine Zq <| Zg <| Za Y <| Za Y <| Z0 <| Zx <| at_ret <| Zt ?_
  refine nx_end2 rfl results65 Y Y (by exact ⟨.slice none 0 0, [], by rw [decide_eq_false hcm], by rw [rows_f hcm]; exact rowS_nil 5 _, rfl⟩)
 have hcm := Classical.not_not.1 hcm
 have hc1 := hcm.tc
 have hc2 := hcm.ct
 have hc3 := hcm.n
 have hc4 := hcm.fi
 refine at_skip <| Zx <| Zq <| Zg <| Za Y <| Z0 <| Zx <| Zq <| Zq <| Zg <| Zh 6 underlying79 rfl rfl sizeOf38 Y <| Zl isAgg38 Y ?_
 refine Zv (p_len_slice underlying38 Y) <| Zm Y <| Z0 <| Zx <| at_block <| at_nil ?_
 refine Zb [4, 14, 1, 12, 13] ?_
 refine at_loopB (e0 := [(4, _), (14, _)]) (H0 := _) (n := _) (fun m e H => ∃ (i : Nat) (vo : Value) (so : List Chunk), m = x.rows.length - i ∧ (i ≤ x.rows.length ∧ RowS 5 67 vo ((x.rows.take i).filter (inB x)).length (rowCells ((x.rows.take i).filter (inB x))) so) ∧ e = [(4, vo), (14, .int .i64 (i : Int))] ∧ H = [so]) (by exact ⟨0, .slice none 0 0, [], rfl, ⟨Nat.zero_le _, by rw [List.take_zero]; exact rowS_nil 5 _⟩, rfl, rfl⟩) Wp ?_
 rintro _ _ _ ⟨i, vo, so, rfl, ⟨hi, hro⟩, rfl, rfl⟩
 obtain ⟨qo, co, rfl⟩ := hro.form
 have hfl : ((x.rows.take i).filter (inB x)).length ≤ i := Nat.le_trans (List.length_filter_le _ _) (List.length_take_le _ _)
 refine Zq <| Zg <| Zv (p_lss_nat Y Y) <| Z0 <| Zx <| Zq ?_
 refine at_if Y (fun hlt => ?_) (fun hlt => ?_)
 ·
  obtain ⟨r, hr⟩ : ∃ r, x.rows[i]? = some r := ⟨_, List.getElem?_eq_getElem hlt⟩
  obtain ⟨g, off, cur, T, zz, rfl, hm9, hsz9, hex9⟩ := hg i r hr
  refine at_skip <| Zx <| Zq <| at_block <| Zq <| Zg ?_
  (refine op_v (p_indexAddr_nat underlying38 sizeOf67 Y Y ?_) ?_; (focus (first | omega | decide | (simp; done))))
  refine op_rm (cs := [(g, .cells cur T zz)]) (by simp [hm9]) (p_load_agg (cs := #[.int .i64 r.t, .int .i64 r.k, .int .i64 r.v.a, .int .i64 r.v.b, .int .i64 r.v.c]) isAgg67 sizeOf67 Y (by omega) hex9) rfl rfl ?_
  refine Ze (w_alloc zeroValue67 (cs := #[_, _, _, _, _]) rfl) ?_
  rintro _ _ ⟨rb, rfl, rfl⟩
  refine Xe (w_store_agg sizeOf67 Y Y (by (simp [Value.oneCell']; done)) Wu (by exact (rfl : _ = (#[.int .i64 r.t, .int .i64 r.k, .int .i64 r.v.a, .int .i64 r.v.b, .int .i64 r.v.c] : Array Value))) (by first | rfl | (simp; done)) Wb (by exact free_zero _)) ?_
  refine Z0 <| Zx <| Zq <| Zg <| Zo Wh (p_load_agg (cs := #[_, _, _, _, _]) isAgg67 sizeOf67 Y Wb (by rfl)) ?_
  refine Zh 1 underlying79 rfl rfl sizeOf3 Y <| Zl isAgg3 Y ?_
  refine Xr [_, _] Y call56 Y rfl (rw_valueI r x.cl (by omega)) ?_
  refine Za Y <| Z0 <| Zx <| Zq <| Zg <| Zm Y <| Zh 2 underlying79 rfl rfl sizeOf3 Y <| Zl isAgg3 Y ?_
  refine Zv (p_geq Y Y) <| Zm Y ?_
  refine ops_split (t := 26) Y rfl (fun hg1 => ?_) (fun hg1 => ?_)
  ·
   refine Zf Y Y <| Yf 3 underlying79 rfl rfl sizeOf3 Y <| Yl isAgg3 Y ?_
   refine Yg (p_leq Y Y) <| Zv (p_pick_t Y Y) <| Z0 <| Zn [1, 4, 6, 12, 13, 14, 31] ?_
   refine Zx ?_
   refine at_if Y (fun hg2 => ?_) (fun hg2 => ?_)
   ·
    have hin : inB x r = true := decide_eq_true (by omega)
    refine Zg <| Zm Y <| Zo Wh (p_load_agg (cs := #[_, _, _, _, _]) isAgg67 sizeOf67 Y Wb (by rfl)) ?_
    refine Ze (w_buildSlice (vs := [_]) (cs := [_, _, _, _, _]) underlying38 sizeOf67 zeroValue67 Y rfl rfl rfl rfl rfl) ?_
    rintro _ _ ⟨gb, rfl, rfl⟩
    refine Ze (w_append_subS (by_ := 40) (sz := 5) underlying38 (rfl : Tryz.prog.info? 67 = some Tryz.t67) rfl rfl rfl rfl Y (hro) Y (subS_new 5 gb 1 1 67 (0, 0) [.int .i64 r.t, .int .i64 r.k, .int .i64 r.v.a, .int .i64 r.v.b, .int .i64 r.v.c] rfl) Wo Wo (by simp [Value.oneCell']) (by omega) (by omega)) ?_
    rintro _ _ ⟨sa9, hra9, rfl⟩
    obtain ⟨ga9, ca9, rfl⟩ := hra9.form
    refine Za Y <| Z0 <| nx_block_normal <| Zx <| Zg <| Ya (n := 1) Y Y <| Zm Y <| Z0 <| Zn [4, 14, 1, 12, 13] ?_
    refine nx_againB (e' := [(4, _), (14, _)]) (m := _) (H' := _) (by exact ⟨i + 1, _, _, rfl, ⟨by omega, rowS_eq hra9 (by rw [filt_t hr hin, List.length_append]; rfl) (by rw [filt_t hr hin, rowCells_app]; rfl)⟩, rfl, rfl⟩)
   have hin : inB x r = false := decide_eq_false (by omega)
   refine at_skip <| nx_block_normal <| Zx <| Zg <| Ya (n := 1) Y Y <| Zm Y <| Z0 <| Zn [4, 14, 1, 12, 13] ?_
   refine nx_againB (e' := [(4, _), (14, _)]) (m := _) (H' := _) (by exact ⟨i + 1, _, so, rfl, ⟨by omega, rowS_eq hro (by rw [filt_f hr hin]) (by rw [filt_f hr hin])⟩, rfl, rfl⟩)
  have hin : inB x r = false := decide_eq_false (by omega)
  refine op_skip Y rfl <| op_skip Y rfl <| op_skip Y rfl <| op_skip Y rfl <| Zv (p_pick_f Y Y) <| Z0 <| Zn [1, 4, 6, 12, 13, 14, 31] ?_
  refine Zx <| at_else Y <| at_skip <| nx_block_normal <| Zx <| Zg <| Ya (n := 1) Y Y <| Zm Y <| Z0 <| Zn [4, 14, 1, 12, 13] ?_
  refine nx_againB (e' := [(4, _), (14, _)]) (m := _) (H' := _) (by exact ⟨i + 1, _, so, rfl, ⟨by omega, rowS_eq hro (by rw [filt_f hr hin]) (by rw [filt_f hr hin])⟩, rfl, rfl⟩)
 have ei : i = x.rows.length := by omega
 subst ei
 rw [List.take_length] at hro ⊢
 refine at_exit <| Zt <| Zt <| nx_block_exit <| Zx <| Zq <| Zg <| Zm Y <| Za Y <| Za Y <| Z0 <| Zx <| at_ret ?_
 refine nx_end2 rfl results65 Y Y (by exact ⟨.slice qo _ co, so, by rw [decide_eq_true hcm], by rw [rows_t hcm]; exact hro, rfl⟩)

end Go.Proofs.YtkgmgmkbgnkdnaaGreatDoor
