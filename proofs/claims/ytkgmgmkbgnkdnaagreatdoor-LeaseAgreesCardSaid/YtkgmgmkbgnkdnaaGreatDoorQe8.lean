/- eval: extreme, the steps of From, joined. -/
/- eval: From, Of, Same. -/
/- eval: Same, Of. -/
import Derived.Test.YtkgmgmkbgnkdnaaGreatDoorEz
import Derived.Test.YtkgmgmkbgnkdnaaGreatDoorQe5
namespace Go.Proofs.YtkgmgmkbgnkdnaaGreatDoor
open Go.Proofs.Tryz
open Go Go.RowKit Gw
set_option linter.unusedVariables false
set_option linter.unusedSimpArgs false
set_option maxRecDepth 100000
attribute [local irreducible] Gw.At Gw.Nx Gw.Ops
theorem eextreme_spec (v : Value) (h1 : v.oneCell' = true) (hc : v.cells = #[v]) : Does Tryz.prog 71 #[v] [] (fun r H' => ∃ b, r = .func (.func 111) #[] #[.pointer (some ⟨b, 0, none⟩)] ∧ H' = [[(b, .cells #[v] 128 (0, 0))]]) := by
 refine spec_enter func71 rfl ntmps71 rfl ?_
 intro u R
 refine Zb [0] ?_
 refine Zq <| Zg <| Ze (w_box Y (cs := #[v]) hc) ?_
 rintro _ _ ⟨b, rfl, rfl⟩
 refine Za Y <| Z0 <| Zx <| Zq <| Zg <| Zv (p_makeFunc (vs := []) (us := [_]) Y Y) ?_
 refine Za Y <| Z0 <| Zx <| at_ret ?_
 refine nx_end1 rfl results71 Y (by exact ⟨b, rfl, rfl⟩)

theorem ext1_spec (v n : Int) (f : Bool) (b fid : Nat) (lt : Int → Int → Bool) (hcf : ∀ (args : Array Value) (w : World), (callFunc fid args).run Tryz.prog w = .ok (.enter fid args) w) (hlt : ∀ x y : Int, DoesR Tryz.prog fid #[.int .i64 x, .int .i64 y] [] (.bool (lt x y))) : DoesR Tryz.prog 111 #[.agg #[.slice none 0 0, .int .i64 v, .bool f], .int .i64 n, .pointer (some ⟨b, 0, none⟩)] [[(b, .cells #[.func (.func fid) #[] #[]] 128 (0, 0))]] (.agg #[.slice none 0 0, .int .i64 (if !f || lt n v then n else v), .bool true]) := by
 refine spec_enter func111 rfl ntmps111 rfl ?_
 intro u R
 refine Zb [0, 1, 2] ?_
 refine Zq <| Zg <| Ze (w_box Y (cs := #[_, _, _]) rfl) ?_
 rintro _ _ ⟨br, rfl, rfl⟩
 refine Ze (w_alloc zeroValue40 (cs := #[_, _, _]) rfl) ?_
 rintro _ _ ⟨bs, rfl, rfl⟩
 refine Z0 <| Zx <| Zq <| Zq <| Zg <| Zh 2 underlying40 rfl rfl sizeOf4 Y <| Zl isAgg4 Y ?_
 refine Zv (p_not Y) <| Zm Y ?_
 refine ops_split_bool (t := 9) Y rfl (fun h1 => ?_) (fun h1 => ?_)
 ·
  refine op_skip Y rfl <| op_skip Y rfl <| op_skip Y rfl <| op_skip Y rfl <| op_skip Y rfl <| Zv (p_pick_t Y Y) <| Z0 <| Zx <| at_then Y <| Zg <| Zm Y <| Zh 1 underlying40 rfl rfl sizeOf3 Y <| Xe (Zs sizeOf3 Y Y rfl (hi := by first | omega | decide | (simp; done))) ?_
  refine Z0 <| Zn [3, 5] ?_
  refine Zx <| Zq <| Zg <| Zh 2 underlying40 rfl rfl sizeOf4 Y <| Xe (Zs sizeOf4 Y Y rfl (hi := by first | omega | decide | (simp; done))) ?_
  refine Z0 <| Zx <| Zq <| Zg <| Zo Wh (p_load_agg (cs := #[_, _, _]) isAgg40 sizeOf40 Y Wb (by rfl)) ?_
  refine Xe (w_store_agg sizeOf40 Y Y (by (simp [Value.oneCell']; done)) Wu (by rfl) (by first | rfl | (simp; done)) Wb (by exact free_zero _)) ?_
  refine Z0 <| Zx <| at_ret ?_
  refine nx_endc1 rfl results111 Y Wh (loadVar_agg isAgg40 sizeOf40 Wn (rfl)) (by exact ⟨by simp_all; rfl, rfl⟩)
 refine Yl isAgg128 Y ?_
 refine Zf Y Y <| Yf 1 underlying40 rfl rfl sizeOf3 Y <| Yl isAgg3 Y ?_
 refine Xr [_, _] Y (hcf) Y rfl (hlt n v) ?_
 refine Zv (p_pick_f Y Y) <| Z0 <| Zx ?_
 refine at_if_bool Y (fun h2 => ?_) (fun h2 => ?_)
 ·
  refine Zg <| Zm Y <| Zh 1 underlying40 rfl rfl sizeOf3 Y <| Xe (Zs sizeOf3 Y Y rfl (hi := by first | omega | decide | (simp; done))) ?_
  refine Z0 <| Zn [3, 5] ?_
  refine Zx <| Zq <| Zg <| Zh 2 underlying40 rfl rfl sizeOf4 Y <| Xe (Zs sizeOf4 Y Y rfl (hi := by first | omega | decide | (simp; done))) ?_
  refine Z0 <| Zx <| Zq <| Zg <| Zo Wh (p_load_agg (cs := #[_, _, _]) isAgg40 sizeOf40 Y Wb (by rfl)) ?_
  refine Xe (w_store_agg sizeOf40 Y Y (by (simp [Value.oneCell']; done)) Wu (by rfl) (by first | rfl | (simp; done)) Wb (by exact free_zero _)) ?_
  refine Z0 <| Zx <| at_ret ?_
  refine nx_endc1 rfl results111 Y Wh (loadVar_agg isAgg40 sizeOf40 Wn (rfl)) (by exact ⟨by simp_all; rfl, rfl⟩)
 refine at_skip <| Zx <| Zq <| Zg <| Zh 2 underlying40 rfl rfl sizeOf4 Y <| Xe (Zs sizeOf4 Y Y rfl (hi := by first | omega | decide | (simp; done))) ?_
 refine Z0 <| Zn [3, 5] ?_
 refine Zx <| Zq <| Zg <| Zo Wh (p_load_agg (cs := #[_, _, _]) isAgg40 sizeOf40 Y Wb (by rfl)) ?_
 refine Xe (w_store_agg sizeOf40 Y Y (by (simp [Value.oneCell']; done)) Wu (by rfl) (by first | rfl | (simp; done)) Wb (by exact free_zero _)) ?_
 refine Z0 <| Zx <| at_ret ?_
 refine nx_endc1 rfl results111 Y Wh (loadVar_agg isAgg40 sizeOf40 Wn (rfl)) (by exact ⟨by simp_all; rfl, rfl⟩)

theorem from3_spec (x y : Int) : DoesR Tryz.prog 72 #[.int .i64 x, .int .i64 y] [] (.bool (decide (x < y))) := by
 refine spec_enter func72 rfl ntmps72 rfl ?_
 intro u R
 refine Zb [0, 1] ?_
 refine Zq <| Zg <| Za Y <| Z0 <| Zx <| Zq <| Zg <| Zm Y <| Zm Y <| Zv (p_lss Y Y) <| Za Y <| Z0 <| Zx <| at_ret ?_
 refine nx_end1 rfl results72 Y (by exact ⟨by rfl, rfl⟩)

theorem from4_spec (x y : Int) : DoesR Tryz.prog 73 #[.int .i64 x, .int .i64 y] [] (.bool (decide (y < x))) := by
 refine spec_enter func73 rfl ntmps73 rfl ?_
 intro u R
 refine Zb [0, 1] ?_
 refine Zq <| Zg <| Za Y <| Z0 <| Zx <| Zq <| Zg <| Zm Y <| Zm Y <| Zv (p_gtr Y Y) <| Za Y <| Z0 <| Zx <| at_ret ?_
 refine nx_end1 rfl results73 Y (by exact ⟨by rfl, rfl⟩)

theorem from1_spec (v : Int) (f : Bool) (r : RowM) (h : -9223372036854775807 ≤ v ∧ v ≤ 9223372036854775806) : DoesR Tryz.prog 67 #[.agg #[.slice none 0 0, .int .i64 v, .bool f], .agg #[.int .i64 r.t, .int .i64 r.k, .int .i64 r.v.a, .int .i64 r.v.b, .int .i64 r.v.c]] [] (.agg #[.slice none 0 0, .int .i64 (v + 1), .bool f]) := by
 refine spec_enter func67 rfl ntmps67 rfl ?_
 intro u R
 refine Zb [0, 1] ?_
 refine Zq <| Zg <| Ze (w_box Y (cs := #[_, _, _]) rfl) ?_
 rintro _ _ ⟨br, rfl, rfl⟩
 refine Ze (w_box Y (cs := #[_, _, _, _, _]) rfl) ?_
 rintro _ _ ⟨bx, rfl, rfl⟩
 refine Ze (w_alloc zeroValue40 (cs := #[_, _, _]) rfl) ?_
 rintro _ _ ⟨b3, rfl, rfl⟩
 refine Z0 <| Zx <| Zq <| Zg <| Zh 1 underlying40 rfl rfl sizeOf3 Y <| Zl isAgg3 Y ?_
 refine Yi Y Y <| Zh 1 underlying40 rfl rfl sizeOf3 Y <| Xe (Zs sizeOf3 Y Y rfl (hi := by first | omega | decide | (simp; done))) ?_
 refine Z0 <| Zx <| Zq <| Zg <| Zo Wh (p_load_agg (cs := #[_, _, _]) isAgg40 sizeOf40 Y Wb (by rfl)) ?_
 refine Xe (w_store_agg sizeOf40 Y Y (by (simp [Value.oneCell']; done)) Wu (by rfl) (by first | rfl | (simp; done)) Wb (by exact free_zero _)) ?_
 refine Z0 <| Zx <| at_ret ?_
 refine nx_endc1 rfl results67 Y Wh (loadVar_agg isAgg40 sizeOf40 Wn (rfl)) (by exact ⟨rfl, rfl⟩)

theorem from2_spec (v n : Int) (f : Bool) (h : -9223372036854775807 ≤ v + n ∧ v + n ≤ 9223372036854775806) : DoesR Tryz.prog 70 #[.agg #[.slice none 0 0, .int .i64 v, .bool f], .int .i64 n] [] (.agg #[.slice none 0 0, .int .i64 (v + n), .bool f]) := by
 refine spec_enter func70 rfl ntmps70 rfl ?_
 intro u R
 refine Zb [0, 1] ?_
 refine Zq <| Zg <| Ze (w_box Y (cs := #[_, _, _]) rfl) ?_
 rintro _ _ ⟨br, rfl, rfl⟩
 refine Ze (w_alloc zeroValue40 (cs := #[_, _, _]) rfl) ?_
 rintro _ _ ⟨b2, rfl, rfl⟩
 refine Z0 <| Zx <| Zq <| Zg <| Zh 1 underlying40 rfl rfl sizeOf3 Y <| Zl isAgg3 Y ?_
 refine Zm Y <| Yi Y Y <| Zh 1 underlying40 rfl rfl sizeOf3 Y <| Xe (Zs sizeOf3 Y Y rfl (hi := by first | omega | decide | (simp; done))) ?_
 refine Z0 <| Zx <| Zq <| Zg <| Zo Wh (p_load_agg (cs := #[_, _, _]) isAgg40 sizeOf40 Y Wb (by rfl)) ?_
 refine Xe (w_store_agg sizeOf40 Y Y (by (simp [Value.oneCell']; done)) Wu (by rfl) (by first | rfl | (simp; done)) Wb (by exact free_zero _)) ?_
 refine Z0 <| Zx <| at_ret ?_
 refine nx_endc1 rfl results70 Y Wh (loadVar_agg isAgg40 sizeOf40 Wn (rfl)) (by exact ⟨rfl, rfl⟩)

def rowVQ (r : RowM) : Value := .agg #[.int .i64 r.t, .int .i64 r.k, .int .i64 r.v.a, .int .i64 r.v.b, .int .i64 r.v.c]
theorem mget_ext {lm lm2 : List (Int × Value)} {k0 : Int} {v : Value} (hn : (lm.map (·.1)).Nodup) (hn2 : (lm2.map (·.1)).Nodup) (hp : ∀ p, p ∈ lm2 ↔ p = (k0, v) ∨ (p ∈ lm ∧ p.1 ≠ k0)) (k : Int) : mget k lm2 = if k = k0 then some v else mget k lm := by
  split
  · rename_i h
    rw [h]
    exact mget_mem hn2 ((hp _).2 (.inl rfl))
  · rename_i h
    cases hg : mget k lm with
    | some x => exact mget_mem hn2 ((hp _).2 (.inr ⟨mget_some hg, h⟩))
    | none =>
      cases hg2 : mget k lm2 with
      | none => rfl
      | some x =>
        rcases (hp _).1 (mget_some hg2) with e | ⟨e, _⟩
        · injection e with e1 e2; exact absurd e1 h
        · rw [mget_mem hn e] at hg; cases hg
theorem part_snoc {q : QM} {others : List RowM} {i : Nat} {x : RowM} (h : others[i]? = some x) (k : Int) : partQ q (others.take (i + 1)) k = (partQ q (others.take i) k).or (if x.t = q.ot ∧ x.k = k then some x else none) := by
  unfold partQ
  rw [take_snoc h, List.find?_append]
  congr 1
  simp only [List.find?_cons, List.find?_nil]
  split <;> simp_all
def PartM (q : QM) (others : List RowM) (lm : List (Int × Value)) : Prop := ∀ k, mget k lm = (partQ q others k).map rowVQ
theorem partM_keep {q : QM} {others : List RowM} {i : Nat} {x : RowM} {lm : List (Int × Value)} (h : others[i]? = some x) (hP : PartM q (others.take i) lm) (hx : ¬ x.t = q.ot ∨ (partQ q (others.take i) x.k).isSome = true) : PartM q (others.take (i + 1)) lm := by
  intro k
  rw [hP k, part_snoc h k]
  cases hg : partQ q (others.take i) k with
  | some y => rfl
  | none =>
    rw [if_neg]
    · rfl
    · rintro ⟨h1, rfl⟩
      rcases hx with hx | hx
      · exact hx h1
      · rw [hg] at hx; cases hx
theorem partM_put {q : QM} {others : List RowM} {i : Nat} {x : RowM} {lm lm2 : List (Int × Value)} (h : others[i]? = some x) (hP : PartM q (others.take i) lm) (hx : x.t = q.ot) (hs : (partQ q (others.take i) x.k).isSome = false) (hn : (lm.map (·.1)).Nodup) (hn2 : (lm2.map (·.1)).Nodup) (hp : ∀ p, p ∈ lm2 ↔ p = (x.k, rowVQ x) ∨ (p ∈ lm ∧ p.1 ≠ x.k)) : PartM q (others.take (i + 1)) lm2 := by
  intro k
  rw [mget_ext hn hn2 hp k, part_snoc h k]
  split
  · rename_i hk
    have : partQ q (others.take i) k = none := by
      rw [hk]
      cases hg : partQ q (others.take i) x.k with
      | none => rfl
      | some y => rw [hg] at hs; cases hs
    rw [this, if_pos ⟨hx, hk.symm⟩]
    rfl
  · rename_i hk
    rw [hP k, if_neg (fun h9 => hk h9.2.symm)]
    cases partQ q (others.take i) k <;> rfl
theorem partM_val {q : QM} {others : List RowM} {lm : List (Int × Value)} (hP : PartM q others lm) (k : Int) {y : RowM} (hy : y = (partQ q others k).getD ⟨0, 0, ⟨0, 0, 0⟩⟩) : (mget k lm).getD (.agg #[.int .i64 (⟨0, 0, ⟨0, 0, 0⟩⟩ : RowM).t, .int .i64 (⟨0, 0, ⟨0, 0, 0⟩⟩ : RowM).k, .int .i64 (⟨0, 0, ⟨0, 0, 0⟩⟩ : RowM).v.a, .int .i64 (⟨0, 0, ⟨0, 0, 0⟩⟩ : RowM).v.b, .int .i64 (⟨0, 0, ⟨0, 0, 0⟩⟩ : RowM).v.c]) = .agg #[.int .i64 y.t, .int .i64 y.k, .int .i64 y.v.a, .int .i64 y.v.b, .int .i64 y.v.c] ∧ (mget k lm).isSome = (partQ q others k).isSome := by
  rw [hP k, hy]
  cases partQ q others k <;> exact ⟨rfl, rfl⟩
theorem part_some {q : QM} {others : List RowM} {k : Int} {y : RowM} (hy : y = (partQ q others k).getD ⟨0, 0, ⟨0, 0, 0⟩⟩) (h : (partQ q others k).isSome = true) : partQ q others k = some y := by
  rw [hy]
  cases hp : partQ q others k with
  | none => rw [hp] at h; cases h
  | some x => rfl
theorem cellsM_row {sz : Nat} {e : TypeId} {p : Option Addr} {n c k : Nat} {xs : List Value} {s : List Chunk} (h : RowS sz e (.slice p n c) k xs s) : CellsM s p xs := by
  intro j u hu
  obtain ⟨hl, ⟨_, rfl, _⟩ | ⟨g, cap, cur, z, hv, rfl, _, _, _, htk, _⟩⟩ := h
  · have : xs = [] := List.eq_nil_of_length_eq_zero (by omega)
    subst this; cases hu
  · injection hv with h1 h2 h3
    subst h1
    refine ⟨g, 0, cur, e, z, rfl, by simp, ?_⟩
    have hj := (List.getElem?_eq_some_iff.1 hu).1
    rw [← htk, List.getElem?_take, if_pos (by omega), Array.getElem?_toList] at hu
    rwa [Nat.zero_add]
theorem join_snoc {q : QM} {rows others : List RowM} {i : Nat} {r : RowM} (h : rows[i]? = some r) : joinQ q (rows.take (i + 1)) others = joinQ q (rows.take i) others ++ pairQ q others r := by
  unfold joinQ
  rw [take_snoc h, List.flatMap_append, List.flatMap_singleton]
theorem pair_some {q : QM} {others : List RowM} {r y : RowM} (h : partQ q others (valL r q.bq) = some y) : pairQ q others r = [r, y] := by unfold pairQ; rw [h]
theorem pair_none {q : QM} {others : List RowM} {r : RowM} (h : partQ q others (valL r q.bq) = none) : pairQ q others r = [] := by unfold pairQ; rw [h]
theorem pair_len (q : QM) (others : List RowM) (r : RowM) : (pairQ q others r).length ≤ 2 := by unfold pairQ; split <;> simp
theorem join_len (q : QM) (rows others : List RowM) : (joinQ q rows others).length ≤ 2 * rows.length := by
  induction rows with
  | nil => simp [joinQ]
  | cons r rows ih =>
    have := pair_len q others r
    unfold joinQ at *
    rw [List.flatMap_cons, List.length_append, List.length_cons]
    omega

set_option maxHeartbeats 1000000 in
theorem joined_spec {M : List Chunk} {v vo : Value} {rows others : List RowM} (hv : RowsU M v rows) (ho : RowsU M vo others) (q : QM) (hbq : 0 ≤ q.bq ∧ q.bq ≤ 3) (hb : rows.length ≤ 100000000000) : Does Tryz.prog 74 #[.agg #[.int .i64 q.kd, .int .i64 q.tb, .int .i64 q.cl, .int .i64 q.lo, .int .i64 q.hi, .int .i64 q.bq, .int .i64 q.ot], v, vo] [M] (fun r H' => ∃ s, RowS 5 67 r (joinQ q rows others).length (rowCells (joinQ q rows others)) s ∧ H' = [s, M]) := by
 have hml : maxLen = 9223372036854775807 := rfl
 obtain ⟨p, cap, rfl, ⟨hl, hlc⟩, hg⟩ := id hv
 obtain ⟨po, capo, rfl, ⟨hlo, hlco⟩, hgo⟩ := id ho
 refine spec_enter func74 rfl ntmps74 rfl ?_
 intro u R
 refine Zb [0, 1, 2] ?_
 refine Zq <| Zg <| Ze (w_box Y (cs := #[_, _, _, _, _, _, _]) rfl) ?_
 rintro _ _ ⟨bq, rfl, rfl⟩
 refine Za Y <| Z0 <| Zx <| Zq <| Zg <| Ze (w_makeMap) ?_
 rintro _ _ ⟨mb, rfl, rfl⟩
 refine Za Y <| Z0 <| Zx <| Zq <| Zq <| Zg <| Zm Y <| Zv (p_len_slice underlying38 Y) <| Zm Y <| Z0 <| Zx <| at_block <| Zb [19, 1, 3, 6, 7, 17, 18] ?_
 refine at_loopB (e0 := [(19, _)]) (H0 := _) (n := _) (fun m e H => ∃ (i : Nat) (es : Array MapEntry) (ck : Nat) (lm : List (Int × Value)), m = others.length - i ∧ (i ≤ others.length ∧ MapM (fun k : Int => .int .i64 k) es ck lm ∧ PartM q (others.take i) lm) ∧ e = [(19, .int .i64 (i : Int))] ∧ H = [[(mb, .map es ck)]]) (by exact ⟨0, #[], 0, [], rfl, ⟨Nat.zero_le _, mapM_new _, fun k => rfl⟩, rfl, rfl⟩) Wp ?_
 rintro _ _ _ ⟨i, es, ck, lm, rfl, ⟨hi, hm, hP⟩, rfl, rfl⟩
 refine Zq <| Zg <| Zv (p_lss_nat Y Y) <| Z0 <| Zx <| Zq ?_
 refine at_if Y (fun hlt => ?_) (fun hlt => ?_)
 ·
  obtain ⟨x, hx⟩ : ∃ x, others[i]? = some x := ⟨_, List.getElem?_eq_getElem hlt⟩
  obtain ⟨g1, off1, cur1, T1, zz1, rfl, hm1, hsz1, hex1⟩ := hgo i x hx
  refine at_skip <| Zx <| Zq <| at_block <| Zq <| Zg ?_
  (refine op_v (p_indexAddr_nat underlying38 sizeOf67 Y Y ?_) ?_; (focus (first | omega | decide | (simp; done))))
  refine op_rm (cs := [(g1, .cells cur1 T1 zz1)]) (by simp [hm1]) (p_load_agg (cs := #[.int .i64 x.t, .int .i64 x.k, .int .i64 x.v.a, .int .i64 x.v.b, .int .i64 x.v.c]) isAgg67 sizeOf67 Y (by omega) hex1) rfl rfl ?_
  refine Ze (w_alloc zeroValue67 (cs := #[_, _, _, _, _]) rfl) ?_
  rintro _ _ ⟨bx, rfl, rfl⟩
  refine Xe (w_store_agg sizeOf67 Y Y (by (simp [Value.oneCell']; done)) Wu (by exact (rfl : _ = (#[.int .i64 x.t, .int .i64 x.k, .int .i64 x.v.a, .int .i64 x.v.b, .int .i64 x.v.c] : Array Value))) (by first | rfl | (simp; done)) Wb (by exact free_zero _)) ?_
  refine Z0 <| Zx <| Zq ?_
  obtain ⟨y0, hy0⟩ : ∃ y, y = (partQ q (others.take i) x.k).getD ⟨0, 0, ⟨0, 0, 0⟩⟩ := ⟨_, rfl⟩
  refine Zg <| Zm Y <| Zh 1 underlying67 rfl rfl sizeOf3 Y <| Zl isAgg3 Y ?_
  refine Zo Wh (p_lookupV intKey underlying180 zeroValue67 hm (fun _ _ => trivial) (trivial) (partM_val hP x.k hy0) Y Y) ?_
  refine Zm Y <| Zd Y rfl <| Zd Y rfl <| Ze (w_alloc zeroValue67 (cs := #[_, _, _, _, _]) rfl) ?_
  rintro _ _ ⟨bt, rfl, rfl⟩
  refine Xe (w_store_agg sizeOf67 Y Y (by (simp [Value.oneCell']; done)) Wu (by exact (rfl : _ = (#[.int .i64 y0.t, .int .i64 y0.k, .int .i64 y0.v.a, .int .i64 y0.v.b, .int .i64 y0.v.c] : Array Value))) (by first | rfl | (simp; done)) Wb (by exact free_zero _)) ?_
  refine Za Y <| Z0 <| Zn [1, 3, 6, 7, 9, 11, 17, 18, 19] ?_
  refine Zx <| Zq ?_
  obtain ⟨y0, hy0⟩ : ∃ y, y = (partQ q (others.take i) x.k).getD ⟨0, 0, ⟨0, 0, 0⟩⟩ := ⟨_, rfl⟩
  refine Zg <| Zh 0 underlying67 rfl rfl sizeOf3 Y <| Zl isAgg3 Y ?_
  refine Zh 6 underlying30 rfl rfl sizeOf3 Y <| Zl isAgg3 Y ?_
  refine Zv (p_eql Y Y) <| Zm Y ?_
  refine ops_split (t := 35) Y rfl (fun h1 => ?_) (fun h1 => ?_)
  ·
   refine Zf Y Y <| Yg (p_not Y) <| Zv (p_pick_t Y Y) <| Z0 <| Zx ?_
   refine at_if_bool Y (fun h2 => ?_) (fun h2 => ?_)
   ·
    refine Zg <| Zm Y <| Zh 1 underlying67 rfl rfl sizeOf3 Y <| Zl isAgg3 Y ?_
    refine Zo Wh (p_load_agg (cs := #[_, _, _, _, _]) isAgg67 sizeOf67 Y Wb (by rfl)) ?_
    refine Ze (w_mapUpdate intKey underlying180 hm (fun _ _ => trivial) (trivial) Y Y Y Wo) ?_
    rintro _ _ ⟨rfl, es2, ck2, lm2, hm2, hp2, rfl⟩
    have hP2 : PartM q (others.take (i + 1)) lm2 := partM_put hx hP h1 (by simpa using h2) hm.keys hm2.keys hp2
    refine Z0 <| Zn [1, 3, 6, 7, 17, 18, 19] ?_
    refine nx_block_normal <| Zx <| Zg <| Ya (n := 1) Y Y <| Zm Y <| Z0 <| Zn [19, 1, 3, 6, 7, 17, 18] ?_
    refine nx_againB (e' := [(19, _)]) (m := _) (H' := _) (by exact ⟨i + 1, _, _, _, rfl, ⟨by omega, hm2, hP2⟩, rfl, rfl⟩)
   refine at_skip <| nx_block_normal <| Zx <| Zg <| Ya (n := 1) Y Y <| Zm Y <| Z0 <| Zn [19, 1, 3, 6, 7, 17, 18] ?_
   refine nx_againB (e' := [(19, _)]) (m := _) (H' := _) (by exact ⟨i + 1, es, ck, lm, rfl, ⟨by omega, hm, partM_keep hx hP (by first | exact .inl (by omega) | exact .inr (by simpa using h2))⟩, rfl, rfl⟩)
  refine op_skip Y rfl <| op_skip Y rfl <| Zv (p_pick_f Y Y) <| Z0 <| Zx <| at_else Y <| at_skip <| nx_block_normal <| Zx <| Zg <| Ya (n := 1) Y Y <| Zm Y <| Z0 <| Zn [19, 1, 3, 6, 7, 17, 18] ?_
  refine nx_againB (e' := [(19, _)]) (m := _) (H' := _) (by exact ⟨i + 1, es, ck, lm, rfl, ⟨by omega, hm, partM_keep hx hP (by first | exact .inl (by omega) | exact .inr (by simpa using h2))⟩, rfl, rfl⟩)
 have ei : i = others.length := by omega
 subst ei
 rw [List.take_length] at hP
 refine at_exit <| Zt <| Zt <| nx_block_exit <| Zx <| Zq <| Zq <| Zg <| Zo Wh (p_load_agg (cs := #[_, _, _, _, _, _, _]) isAgg30 sizeOf30 Y Wb (by rfl)) ?_
 refine Zm Y <| Zc [_, _] Y call69 Y rfl (meas_spec hv q hbq (by omega)) ?_
 rintro _ _ ⟨_, ⟨sm, hrm, rfl⟩, rfl⟩
 obtain ⟨gm, cm, rfl⟩ := hrm.form
 refine Zv (p_len_slice underlying28 Y) <| Zm Y <| Z0 <| Zx <| at_block <| at_nil ?_
 have hcs : CellsM sm gm ((measT q rows).map ivQ) := cellsM_row hrm
 have hml2 := meas_len q rows
 refine Zb [6, 48, 1, 7, 46, 47] ?_
 refine at_loopB (e0 := [(6, _), (48, _)]) (H0 := _) (n := _) (fun m e H => ∃ (i : Nat) (w : Value) (so : List Chunk), m = rows.length - i ∧ (i ≤ rows.length ∧ RowS 5 67 w (joinQ q (rows.take i) others).length (rowCells (joinQ q (rows.take i) others)) so) ∧ e = [(6, w), (48, .int .i64 (i : Int))] ∧ H = [so]) (by exact ⟨0, .slice none 0 0, [], rfl, ⟨Nat.zero_le _, by rw [List.take_zero]; exact rowS_nil 5 _⟩, rfl, rfl⟩) Wp ?_
 rintro _ _ _ ⟨i, w, so, rfl, ⟨hi, hro⟩, rfl, rfl⟩
 obtain ⟨qo, co, rfl⟩ := hro.form
 have hjl : (joinQ q (rows.take i) others).length ≤ 2 * i := Nat.le_trans (join_len _ _ _) (by rw [List.length_take]; omega)
 refine Zq <| Zg <| Zv (p_lss_nat Y Y) <| Z0 <| Zx <| Zq ?_
 refine at_if Y (fun hlt => ?_) (fun hlt => ?_)
 ·
  obtain ⟨r, hr⟩ : ∃ r, rows[i]? = some r := ⟨_, List.getElem?_eq_getElem (by omega)⟩
  obtain ⟨g2, off2, cur2, T2, zz2, rfl, hm2, hex2⟩ := hcs i (ivQ (valL r q.bq)) (by rw [List.getElem?_map, meas_at hr]; rfl)
  have hex8 : cur2[off2 + i]? = some (.int .i64 (valL r q.bq)) := hex2
  obtain ⟨y1, hy1⟩ : ∃ y, y = (partQ q others (valL r q.bq)).getD ⟨0, 0, ⟨0, 0, 0⟩⟩ := ⟨_, rfl⟩
  refine at_skip <| Zx <| Zq <| at_block <| Zq <| Zg <| Zm Y ?_
  (refine op_v (p_indexAddr_nat1 underlying28 sizeOf3 Y Y ?_) ?_; (focus (first | omega | decide | (simp; done))))
  refine op_rm (cs := [(g2, .cells cur2 T2 zz2)]) (by simp [hm2]) (p_load isAgg3 Y (by exact hex8)) rfl rfl ?_
  refine Za Y <| Za Y <| Z0 <| Zx <| Zq <| Zg <| Zm Y <| Zm Y <| Zo Wh (p_lookupV intKey underlying180 zeroValue67 hm (fun _ _ => trivial) (trivial) (partM_val hP (valL r q.bq) hy1) Y Y) ?_
  refine Zm Y <| Zd Y rfl <| Zd Y rfl <| Ze (w_alloc zeroValue67 (cs := #[_, _, _, _, _]) rfl) ?_
  rintro _ _ ⟨by1, rfl, rfl⟩
  refine Xe (w_store_agg sizeOf67 Y Y (by (simp [Value.oneCell']; done)) Wu (by exact (rfl : _ = (#[.int .i64 y1.t, .int .i64 y1.k, .int .i64 y1.v.a, .int .i64 y1.v.b, .int .i64 y1.v.c] : Array Value))) (by first | rfl | (simp; done)) Wb (by exact free_zero _)) ?_
  refine Za Y <| Z0 <| Zn [1, 6, 7, 12, 14, 15, 46, 47, 48] ?_
  refine Zx <| Zq <| Zg <| Zm Y <| Z0 <| Zx ?_
  refine at_if_bool Y (fun h5 => ?_) (fun h5 => ?_)
  ·
   obtain ⟨g3, off3, cur3, T3, zz3, rfl, hm3, hsz3, hex3⟩ := hg i r hr
   refine at_draw (n := 9) (0 :: 0 :: 0 :: 6 :: 14 :: 0 :: 62 :: 127 :: 255 :: []) 192 (by kernel_rfl) (by kernel_rfl) rfl ?_
   refine Zi 1 0 rfl (p_move Y) <| Zi 3 1 rfl (p_move Y) <| Zi 7 2 rfl (p_move Y) ?_
   (refine lin_v (D' := 15) 3 (p_indexAddr_nat underlying38 sizeOf67 Y Y ?_) ?_; (focus (first | omega | decide | (simp; done))))
   refine lin_rm (b := g3) (x := .cells cur3 T3 zz3) (D' := 31) 4 rfl rfl rfl (by simp [hm3]) (p_load_agg (cs := #[.int .i64 r.t, .int .i64 r.k, .int .i64 r.v.a, .int .i64 r.v.b, .int .i64 r.v.c]) isAgg67 sizeOf67 Y (by omega) hex3) ?_
   refine lin_r (D' := 63) 5 rfl rfl rfl Wh (p_load_agg (cs := #[_, _, _, _, _]) isAgg67 sizeOf67 Y Wb (by rfl)) ?_
   refine Yz 6 62 127 [5, 4] [false, false] [] rfl Y rfl rfl rfl rfl (w_buildSlice (vs := [_, _]) (cs := [_, _, _, _, _, _, _, _, _, _]) underlying38 sizeOf67 zeroValue67 Y rfl rfl rfl rfl rfl) ?_
   rintro _ _ ⟨gb, rfl, rfl⟩
   refine ⟨keep_nil, ?_⟩
   refine Yz 7 127 255 [] [] [] rfl Y rfl rfl rfl rfl (w_append_subS (by_ := 40) (sz := 5) underlying38 (rfl : Tryz.prog.info? 67 = some Tryz.t67) rfl rfl rfl rfl Y (hro) Y (subS_new 5 gb 2 2 67 (0, 0) [.int .i64 r.t, .int .i64 r.k, .int .i64 r.v.a, .int .i64 r.v.b, .int .i64 r.v.c, .int .i64 y1.t, .int .i64 y1.k, .int .i64 y1.v.a, .int .i64 y1.v.b, .int .i64 y1.v.c] rfl) Wo Wo (by simp [Value.oneCell']) (by omega) (by omega)) ?_
   rintro _ _ ⟨sa9, hra9, rfl⟩
   refine ⟨keep_nil, ?_⟩
   obtain ⟨ga9, ca9, rfl⟩ := hra9.form
   refine Zi 511 8 rfl (p_assign Y) <| lin_nil ?_
   refine nx_block_normal <| Zx <| Zg <| Ya (n := 1) Y Y <| Zm Y <| Z0 <| Zn [6, 48, 1, 7, 46, 47] ?_
   refine nx_againB (e' := [(6, _), (48, _)]) (m := _) (H' := _) (by exact ⟨i + 1, _, _, rfl, ⟨by omega, rowS_eq hra9 (by rw [join_snoc hr, pair_some (part_some hy1 h5), List.length_append]; rfl) (by rw [join_snoc hr, pair_some (part_some hy1 h5), rowCells_app]; rfl)⟩, rfl, rfl⟩)
  refine at_skip <| nx_block_normal <| Zx <| Zg <| Ya (n := 1) Y Y <| Zm Y <| Z0 <| Zn [6, 48, 1, 7, 46, 47] ?_
  refine nx_againB (e' := [(6, _), (48, _)]) (m := _) (H' := _) (by exact ⟨i + 1, _, so, rfl, ⟨by omega, by rw [join_snoc hr, pair_none (Option.not_isSome_iff_eq_none.1 (by simpa using h5)), List.append_nil]; exact hro⟩, rfl, rfl⟩)
 have ei : i = rows.length := by omega
 subst ei
 rw [List.take_length] at hro ⊢
 refine at_exit <| Zt <| Zt <| nx_block_exit <| Zx <| Zq <| Zg <| Zm Y <| Za Y <| Z0 <| Zx <| at_ret ?_
 refine nx_end1 rfl results74 Y (by exact ⟨so, hro, rfl⟩)

end Go.Proofs.YtkgmgmkbgnkdnaaGreatDoor

namespace Go.Proofs.YtkgmgmkbgnkdnaaGreatDoor
open Go.Proofs.Tryz
open Go Go.RowKit Gw
set_option linter.unusedVariables false
set_option linter.unusedSimpArgs false
set_option maxRecDepth 100000
attribute [local irreducible] Gw.At Gw.Nx Gw.Ops
def fromV (q : QM) (rows others : List RowM) : ResM := if ValidQ q then fromQ q rows others else ResM.none
theorem fv_no {q : QM} {rows others : List RowM} (h : ¬ ValidQ q) : fromV q rows others = ⟨[], 0, false⟩ := if_neg h
theorem fv_ok {q : QM} {rows others : List RowM} (h : ValidQ q) : fromV q rows others = fromQ q rows others := if_pos h
theorem fv_3 {q : QM} {rows others : List RowM} (h : ValidQ q) (k : q.kd = 3) : fromV q rows others = ⟨[], rows.length, false⟩ := by rw [fv_ok h]; unfold fromQ; rw [if_pos k]
theorem fv_4 {q : QM} {rows others : List RowM} (h : ValidQ q) (k : q.kd = 4) : fromV q rows others = ⟨[], sumT (measT q rows), false⟩ := by rw [fv_ok h]; unfold fromQ; rw [if_neg (by omega), if_pos k]
theorem fv_5 {q : QM} {rows others : List RowM} (h : ValidQ q) (k : q.kd = 5) : fromV q rows others = extT (fun a b => decide (a < b)) (measT q rows) := by rw [fv_ok h]; unfold fromQ; rw [if_neg (by omega), if_neg (by omega), if_pos k]
theorem fv_6 {q : QM} {rows others : List RowM} (h : ValidQ q) (k : q.kd = 6) : fromV q rows others = extT (fun a b => decide (b < a)) (measT q rows) := by rw [fv_ok h]; unfold fromQ; rw [if_neg (by omega), if_neg (by omega), if_neg (by omega), if_pos k]
theorem fv_7 {q : QM} {rows others : List RowM} (h : ValidQ q) (k : q.kd = 7) : fromV q rows others = ⟨joinQ q rows others, 0, false⟩ := by rw [fv_ok h]; unfold fromQ; rw [if_neg (by omega), if_neg (by omega), if_neg (by omega), if_neg (by omega), if_pos k]
theorem fv_1 {q : QM} {rows others : List RowM} (h : ValidQ q) (k3 : ¬ q.kd = 3) (k4 : ¬ q.kd = 4) (k5 : ¬ q.kd = 5) (k6 : ¬ q.kd = 6) (k7 : ¬ q.kd = 7) : fromV q rows others = ⟨rows, 0, false⟩ := by rw [fv_ok h]; unfold fromQ; rw [if_neg k3, if_neg k4, if_neg k5, if_neg k6, if_neg k7]
theorem sumT_snoc {ms : List Int} {i : Nat} {x : Int} (h : ms[i]? = some x) : sumT (ms.take (i + 1)) = sumT (ms.take i) + x := by unfold sumT; rw [take_snoc h, List.foldl_append]; rfl
theorem sumT_bound (B : Int) : ∀ (ms : List Int), (∀ m ∈ ms, -B ≤ m ∧ m ≤ B) → -(ms.length * B) ≤ sumI ms ∧ sumI ms ≤ ms.length * B
  | [], _ => by simp [sumI]
  | m :: ms, h => by
    have h1 := h m (by simp)
    have h2 := sumT_bound B ms (fun y hy => h y (List.mem_cons_of_mem _ hy))
    have h3 : ((m :: ms).length : Int) * B = ms.length * B + B := by rw [List.length_cons]; push_cast; rw [Int.add_mul, Int.one_mul]
    simp only [sumI]
    omega
theorem sumT_in {ms : List Int} (h : ∀ m ∈ ms, -1000000000 ≤ m ∧ m ≤ 1000000000) (hl : ms.length ≤ 1000000000) (i : Nat) : -1000000000000000000 ≤ sumT (ms.take i) ∧ sumT (ms.take i) ≤ 1000000000000000000 := by
  have h1 := sumT_bound 1000000000 (ms.take i) (fun m hm => h m (List.mem_of_mem_take hm))
  have h2 : (ms.take i).length ≤ 1000000000 := by rw [List.length_take]; omega
  unfold sumT
  rw [foldl_sum]
  omega
theorem extT_snoc {lt : Int → Int → Bool} {ms : List Int} {i : Nat} {x : Int} (h : ms[i]? = some x) : extT lt (ms.take (i + 1)) = ⟨(extT lt (ms.take i)).rows, if !(extT lt (ms.take i)).fnd || lt x (extT lt (ms.take i)).val then x else (extT lt (ms.take i)).val, true⟩ := by unfold extT; rw [take_snoc h, List.foldl_append]; rfl
theorem extT_rows (lt : Int → Int → Bool) (ms : List Int) : ∀ r : ResM, (ms.foldl (fun r n => ⟨r.rows, if !r.fnd || lt n r.val then n else r.val, true⟩ : ResM → Int → ResM) r).rows = r.rows := by
  induction ms with
  | nil => intro r; rfl
  | cons m ms ih => intro r; rw [List.foldl_cons, ih]
theorem count_fold {M : List Chunk} {v : Value} {rows : List RowM} (hv : RowsU M v rows) (hb : rows.length ≤ 1000000000) : DoesR Tryz.prog 66 #[v, .agg #[.slice none 0 0, .int .i64 0, .bool false], .func (.func 67) #[] #[]] [M] (.agg #[.slice none 0 0, .int .i64 (rows.length : Int), .bool false]) :=
  foldR_spec hv (fun i => ((i : Int), false)) rfl 67 [] call67 (fun i r hr => by
    have hlt := (List.getElem?_eq_some_iff.1 hr).1
    have := from1_spec (i : Int) false r (by omega)
    exact doesR_frame this)
theorem sum_fold {s : List Chunk} {p : Option Addr} {cap : Nat} {ms : List Int} (hc : CellsM s p (ms.map ivQ)) (hl : ms.length ≤ 1000000000) (hlc : ms.length ≤ cap) (hm : ∀ m ∈ ms, -1000000000 ≤ m ∧ m ≤ 1000000000) : DoesR Tryz.prog 68 #[.slice p ms.length cap, .agg #[.slice none 0 0, .int .i64 0, .bool false], .func (.func 70) #[] #[]] [s] (.agg #[.slice none 0 0, .int .i64 (sumT ms), .bool false]) := by
  have hml : maxLen = 9223372036854775807 := rfl
  have h := foldI_spec hc (by omega) hlc (fun i => (sumT (ms.take i), false)) rfl 70 [] call70 (fun i x hx => by
    have h1 := sumT_in hm hl i
    have h2 := hm x (List.mem_of_getElem? hx)
    have h3 := from2_spec (sumT (ms.take i)) x false (by omega)
    show DoesR _ _ _ _ (.agg #[.slice none 0 0, .int .i64 (sumT (ms.take (i + 1))), .bool false])
    rw [sumT_snoc hx]
    exact doesR_frame h3)
  rwa [List.take_length] at h
theorem ext_fold {s : List Chunk} {p : Option Addr} {cap : Nat} {ms : List Int} (hc : CellsM s p (ms.map ivQ)) (hl : ms.length ≤ 1000000000) (hlc : ms.length ≤ cap) (b fid : Nat) (lt : Int → Int → Bool) (hcf : ∀ (args : Array Value) (w : World), (callFunc fid args).run Tryz.prog w = .ok (.enter fid args) w) (hlt : ∀ x y : Int, DoesR Tryz.prog fid #[.int .i64 x, .int .i64 y] [] (.bool (lt x y))) : DoesR Tryz.prog 68 #[.slice p ms.length cap, .agg #[.slice none 0 0, .int .i64 0, .bool false], .func (.func 111) #[] #[.pointer (some ⟨b, 0, none⟩)]] [s, [(b, .cells #[.func (.func fid) #[] #[]] 128 (0, 0))]] (.agg #[.slice none 0 0, .int .i64 (extT lt ms).val, .bool (extT lt ms).fnd]) := by
  have hml : maxLen = 9223372036854775807 := rfl
  refine doesR_two ?_
  have h := foldI_spec (M := s ++ [(b, .cells #[.func (.func fid) #[] #[]] 128 (0, 0))]) (ms := ms) (p := p) (fun j u hu => by
    obtain ⟨g, o, c, T, z, h1, h2, h3⟩ := hc j u hu
    exact ⟨g, o, c, T, z, h1, List.mem_append_left _ h2, h3⟩) (by omega) hlc (fun i => ((extT lt (ms.take i)).val, (extT lt (ms.take i)).fnd)) rfl 111 [.pointer (some ⟨b, 0, none⟩)] call111 (fun i x hx => by
    show DoesR _ _ _ _ (.agg #[.slice none 0 0, .int .i64 (extT lt (ms.take (i + 1))).val, .bool (extT lt (ms.take (i + 1))).fnd])
    rw [extT_snoc hx]
    exact doesR_right (ext1_spec (extT lt (ms.take i)).val x (extT lt (ms.take i)).fnd b fid lt hcf hlt))
  rwa [List.take_length] at h
theorem meas_in {q : QM} {rows : List RowM} (h : ∀ r ∈ rows, -1000000000 ≤ valL r q.bq ∧ valL r q.bq ≤ 1000000000) : ∀ m ∈ measT q rows, -1000000000 ≤ m ∧ m ≤ 1000000000 := by
  intro m hm
  obtain ⟨r, hr, rfl⟩ := List.mem_map.1 hm
  exact h r hr

set_option maxHeartbeats 1000000 in
theorem from_spec {M : List Chunk} {v vo : Value} {rows others : List RowM} (hv : RowsU M v rows) (ho : RowsU M vo others) (q : QM) (hb : rows.length ≤ 1000000000) (hm : ValidQ q → ∀ r ∈ rows, -1000000000 ≤ valL r q.bq ∧ valL r q.bq ≤ 1000000000) : Does Tryz.prog 34 #[.agg #[.int .i64 q.kd, .int .i64 q.tb, .int .i64 q.cl, .int .i64 q.lo, .int .i64 q.hi, .int .i64 q.bq, .int .i64 q.ot], v, vo] [M] (fun w H' => ∃ rv s, w = .agg #[rv, .int .i64 (fromV q rows others).val, .bool (fromV q rows others).fnd] ∧ RowS 5 67 rv (fromV q rows others).rows.length (rowCells (fromV q rows others).rows) s ∧ H' = [s, M]) := by
 have hml : maxLen = 9223372036854775807 := rfl
 refine spec_enter func34 rfl ntmps34 rfl ?_
 intro u R
 refine Zb [0, 1, 2] ?_
 refine Zq <| Zg <| Ze (w_box Y (cs := #[_, _, _, _, _, _, _]) rfl) ?_
 rintro _ _ ⟨bq, rfl, rfl⟩
 refine Ze (w_alloc zeroValue40 (cs := #[_, _, _]) rfl) ?_
 rintro _ _ ⟨br, rfl, rfl⟩
 refine Z0 <| Zx <| Zq <| Zq <| Zg <| Zo Wh (p_load_agg (cs := #[_, _, _, _, _, _, _]) isAgg30 sizeOf30 Y Wb (by rfl)) ?_
 refine Xr [_] Y call24 Y rfl (q_valid q) ?_
 refine Zv (p_not_dec Y) <| Z0 <| Zx ?_
 refine at_if_bool Y (fun hq => ?_) (fun hq => ?_)
 ·
  have hq9 : ¬ ValidQ q := by simpa using hq
  refine Zq <| at_nil ?_
  refine Zg <| Zv (p_build (vs := []) (cs := #[_, _, _]) Y (run_build_struct (pl := #[(0, 1), (1, 1), (2, 1)]) zeroValue40 underlying40 (fun _ => by kernel_rfl) rfl)) ?_
  refine Xe (w_store_agg sizeOf40 Y Y (by (simp [Value.oneCell']; done)) Wu (by rfl) (by first | rfl | (simp; done)) Wb (by exact free_zero _)) ?_
  refine Z0 <| Zx <| at_ret <| Zt ?_
  refine nx_endc1 rfl results34 Y Wh (loadVar_agg isAgg40 sizeOf40 Wn (rfl)) (by exact ⟨.slice none 0 0, [], by rw [fv_no hq9]; rfl, by rw [fv_no hq9]; exact rowS_nil 5 _, rfl⟩)
 have hq9 : ValidQ q := by simpa using hq
 have hbq9 : 0 ≤ q.bq ∧ q.bq ≤ 3 := by have := hq9.2.2.2; omega
 have hm9 := meas_in (hm hq9)
 refine at_skip <| Zx <| Zq <| Zg <| Ze (w_alloc zeroValue40 (cs := #[_, _, _]) rfl) ?_
 rintro _ _ ⟨bn, rfl, rfl⟩
 refine Z0 <| Zx <| Zq <| Zq <| Zg <| Zh 0 underlying30 rfl rfl sizeOf3 Y <| Zl isAgg3 Y ?_
 refine Z0 <| Zx <| at_block <| Zq <| Zg <| Zv (p_eql Y Y) <| Za Y <| Z0 <| Zx ?_
 refine at_if Y (fun k3 => ?_) (fun k3 => ?_)
 ·
  refine Zq <| at_nil ?_
  refine Zg <| Zm Y <| Zo Wh (p_load_agg (cs := #[_, _, _]) isAgg40 sizeOf40 Y Wb (by rfl)) ?_
  refine Xr [_, _, _] Y call66 Y rfl (count_fold hv hb) ?_
  refine Xe (w_store_agg sizeOf40 Y Y (by (simp [Value.oneCell']; done)) Wu (by rfl) (by first | rfl | (simp; done)) Wb (by exact free_zero _)) ?_
  refine Z0 <| Zn [6] ?_
  refine Zx <| at_ret <| nx_block_ret <| Zt ?_
  refine nx_endc1 rfl results34 Y Wh (loadVar_agg isAgg40 sizeOf40 Wn (rfl)) (by exact ⟨.slice none 0 0, [], by rw [fv_3 hq9 k3]; rfl, by rw [fv_3 hq9 k3]; exact rowS_nil 5 _, rfl⟩)
 refine Zq <| Zg <| Zv (p_eql Y Y) <| Za Y <| Z0 <| Zx ?_
 refine at_if Y (fun k4 => ?_) (fun k4 => ?_)
 ·
  refine Zq <| at_nil ?_
  refine at_draw (n := 6) (0 :: 0 :: 3 :: 0 :: 15 :: 31 :: []) 52 (by kernel_rfl) (by kernel_rfl) rfl ?_
  refine lin_r (D' := 1) 0 rfl rfl rfl Wh (p_load_agg (cs := #[_, _, _, _, _, _, _]) isAgg30 sizeOf30 Y Wb (by rfl)) ?_
  refine Zi 3 1 rfl (p_move Y) <| lin_r (D' := 11) 3 rfl rfl rfl Wh (p_load_agg (cs := #[_, _, _]) isAgg40 sizeOf40 Y Wb (by rfl)) ?_
  refine Zz (l := [2]) ?_
  refine Zy 3 15 [3, 0] [true, false] [(3, (_, _))] rfl Y rfl rfl rfl rfl (Zw [_, _] Y call69 Y rfl (meas_spec hv q hbq9 (by omega))) ?hk_3 no_pan ?hl_3
  case hk_3 =>
   rintro _ _ ⟨_, ⟨sm, hrm, rfl⟩, rfl⟩
   refine ⟨Zk (keep_nil), ?_⟩
   obtain ⟨gm, cm, rfl⟩ := hrm.form
   have hcs : CellsM sm gm ((measT q rows).map ivQ) := cellsM_row hrm
   have hml2 := meas_len q rows
   have hcm2 := rowS_le hrm
   refine Yz 4 15 31 [3] [false] [] rfl Y rfl rfl rfl rfl (Zu [_, _, _] Y call68 Y rfl (sum_fold hcs (by omega) (by omega) hm9)) ?_
   rintro _ _ ⟨rfl, rfl⟩
   refine ⟨keep_nil, ?_⟩
   refine Yz 5 31 63 [] [] [] rfl Y rfl rfl rfl rfl (w_store_agg sizeOf40 Y Y (by (simp [Value.oneCell']; done)) Wu (by rfl) (by first | rfl | (simp; done)) Wb (by exact free_zero _)) ?_
   rintro _ _ ⟨rfl, rfl⟩
   refine ⟨keep_nil, ?_⟩
   refine lin_nil ?_
   refine Zn [6] ?_
   refine Zx <| at_ret <| nx_block_ret <| Zt ?_
   refine nx_endc1 rfl results34 Y Wh (loadVar_agg isAgg40 sizeOf40 Wn (rfl)) (by exact ⟨.slice none 0 0, [], by rw [fv_4 hq9 k4]; rfl, by rw [fv_4 hq9 k4]; exact rowS_nil 5 _, rfl⟩)
  exact each_nil
 refine Zq <| Zg <| Zv (p_eql Y Y) <| Za Y <| Z0 <| Zn [1, 2, 3, 6, 7, 13, 26] ?_
 refine Zx ?_
 refine at_if Y (fun k5 => ?_) (fun k5 => ?_)
 ·
  refine Zq <| at_nil ?_
  refine at_draw (n := 7) (0 :: 0 :: 3 :: 0 :: 7 :: 31 :: 63 :: []) 116 (by kernel_rfl) (by kernel_rfl) rfl ?_
  refine lin_r (D' := 1) 0 rfl rfl rfl Wh (p_load_agg (cs := #[_, _, _, _, _, _, _]) isAgg30 sizeOf30 Y Wb (by rfl)) ?_
  refine Zi 3 1 rfl (p_move Y) <| lin_r (D' := 11) 3 rfl rfl rfl Wh (p_load_agg (cs := #[_, _, _]) isAgg40 sizeOf40 Y Wb (by rfl)) ?_
  refine Zz (l := [2]) ?_
  refine Zy 3 15 [3, 0] [true, false] [(3, (_, _))] rfl Y rfl rfl rfl rfl (Zw [_, _] Y call69 Y rfl (meas_spec hv q hbq9 (by omega))) ?hk_7 no_pan ?hl_7
  case hk_7 =>
   rintro _ _ ⟨_, ⟨sm, hrm, rfl⟩, rfl⟩
   refine ⟨Zk (keep_nil), ?_⟩
   obtain ⟨gm, cm, rfl⟩ := hrm.form
   have hcs : CellsM sm gm ((measT q rows).map ivQ) := cellsM_row hrm
   have hml2 := meas_len q rows
   have hcm2 := rowS_le hrm
   refine Zz (l := [4]) ?_
   refine Zy 7 31 [3] [true] [(3, (_, _))] rfl Y rfl rfl rfl rfl (Zw [_] Y call71 Y rfl (eextreme_spec (.func (.func 72) #[] #[]) rfl rfl)) ?hk_8 no_pan ?hl_8
   case hk_8 =>
    rintro _ _ ⟨_, ⟨b9, rfl, rfl⟩, rfl⟩
    refine ⟨Zk (keep_nil), ?_⟩
    refine Yz 5 31 63 [3] [false] [] rfl Y rfl rfl rfl rfl (Zu [_, _, _] Y call68 Y rfl (ext_fold hcs (by omega) (by omega) b9 72 _ call72 from3_spec)) ?_
    rintro _ _ ⟨rfl, rfl⟩
    refine ⟨keep_nil, ?_⟩
    refine Yz 6 63 127 [] [] [] rfl Y rfl rfl rfl rfl (w_store_agg sizeOf40 Y Y (by (simp [Value.oneCell']; done)) Wu (by rfl) (by first | rfl | (simp; done)) Wb (by exact free_zero _)) ?_
    rintro _ _ ⟨rfl, rfl⟩
    refine ⟨keep_nil, ?_⟩
    refine lin_nil ?_
    refine Zx <| at_ret <| nx_block_ret <| Zt ?_
    refine nx_endc1 rfl results34 Y Wh (loadVar_agg isAgg40 sizeOf40 Wn (rfl)) (by
          have e8 := extT_rows (fun a b => decide (a < b)) (measT q rows) ResM.none
          exact ⟨.slice none 0 0, [], by rw [fv_5 hq9 k5]; rfl, by rw [fv_5 hq9 k5]; rw [show (extT (fun a b => decide (a < b)) (measT q rows)).rows = [] from e8]; exact rowS_nil 5 _, rfl⟩)
   exact each_nil
  exact each_nil
 refine Zq <| Zg <| Zv (p_eql Y Y) <| Za Y <| Z0 <| Zx ?_
 refine at_if Y (fun k6 => ?_) (fun k6 => ?_)
 ·
  refine Zq <| at_nil ?_
  refine at_draw (n := 7) (0 :: 0 :: 3 :: 0 :: 7 :: 31 :: 63 :: []) 116 (by kernel_rfl) (by kernel_rfl) rfl ?_
  refine lin_r (D' := 1) 0 rfl rfl rfl Wh (p_load_agg (cs := #[_, _, _, _, _, _, _]) isAgg30 sizeOf30 Y Wb (by rfl)) ?_
  refine Zi 3 1 rfl (p_move Y) <| lin_r (D' := 11) 3 rfl rfl rfl Wh (p_load_agg (cs := #[_, _, _]) isAgg40 sizeOf40 Y Wb (by rfl)) ?_
  refine Zz (l := [2]) ?_
  refine Zy 3 15 [3, 0] [true, false] [(3, (_, _))] rfl Y rfl rfl rfl rfl (Zw [_, _] Y call69 Y rfl (meas_spec hv q hbq9 (by omega))) ?hk_12 no_pan ?hl_12
  case hk_12 =>
   rintro _ _ ⟨_, ⟨sm, hrm, rfl⟩, rfl⟩
   refine ⟨Zk (keep_nil), ?_⟩
   obtain ⟨gm, cm, rfl⟩ := hrm.form
   have hcs : CellsM sm gm ((measT q rows).map ivQ) := cellsM_row hrm
   have hml2 := meas_len q rows
   have hcm2 := rowS_le hrm
   refine Zz (l := [4]) ?_
   refine Zy 7 31 [3] [true] [(3, (_, _))] rfl Y rfl rfl rfl rfl (Zw [_] Y call71 Y rfl (eextreme_spec (.func (.func 73) #[] #[]) rfl rfl)) ?hk_13 no_pan ?hl_13
   case hk_13 =>
    rintro _ _ ⟨_, ⟨b9, rfl, rfl⟩, rfl⟩
    refine ⟨Zk (keep_nil), ?_⟩
    refine Yz 5 31 63 [3] [false] [] rfl Y rfl rfl rfl rfl (Zu [_, _, _] Y call68 Y rfl (ext_fold hcs (by omega) (by omega) b9 73 _ call73 from4_spec)) ?_
    rintro _ _ ⟨rfl, rfl⟩
    refine ⟨keep_nil, ?_⟩
    refine Yz 6 63 127 [] [] [] rfl Y rfl rfl rfl rfl (w_store_agg sizeOf40 Y Y (by (simp [Value.oneCell']; done)) Wu (by rfl) (by first | rfl | (simp; done)) Wb (by exact free_zero _)) ?_
    rintro _ _ ⟨rfl, rfl⟩
    refine ⟨keep_nil, ?_⟩
    refine lin_nil ?_
    refine Zx <| at_ret <| nx_block_ret <| Zt ?_
    refine nx_endc1 rfl results34 Y Wh (loadVar_agg isAgg40 sizeOf40 Wn (rfl)) (by
          have e8 := extT_rows (fun a b => decide (b < a)) (measT q rows) ResM.none
          exact ⟨.slice none 0 0, [], by rw [fv_6 hq9 k6]; rfl, by rw [fv_6 hq9 k6]; rw [show (extT (fun a b => decide (b < a)) (measT q rows)).rows = [] from e8]; exact rowS_nil 5 _, rfl⟩)
   exact each_nil
  exact each_nil
 refine Zq <| Zg <| Zv (p_eql Y Y) <| Za Y <| Z0 <| Zx ?_
 refine at_if Y (fun k7 => ?_) (fun k7 => ?_)
 ·
  refine Zq <| Zg <| Zo Wh (p_load_agg (cs := #[_, _, _, _, _, _, _]) isAgg30 sizeOf30 Y Wb (by rfl)) ?_
  refine Zm Y <| Zm Y <| Zc [_, _, _] Y call74 Y rfl (joined_spec hv ho q hbq9 (by omega)) ?_
  rintro _ _ ⟨_, ⟨sj, hrj, rfl⟩, rfl⟩
  obtain ⟨gj, cj, rfl⟩ := hrj.form
  refine Zv (p_build (vs := [(0, _)]) (cs := #[_, _, _]) Y (run_build_struct (pl := #[(0, 1), (1, 1), (2, 1)]) zeroValue40 underlying40 (fun _ => by kernel_rfl) rfl)) ?_
  refine Xe (w_store_agg sizeOf40 Y Y (by (simp [Value.oneCell', Value.cells]; done)) Wu (by rfl) (by first | rfl | (simp; done)) Wb (by exact free_zero _)) ?_
  refine Z0 <| Zx <| at_ret <| nx_block_ret <| Zt ?_
  refine nx_endc1 rfl results34 Y Wh (loadVar_agg isAgg40 sizeOf40 Wn (rfl)) (by exact ⟨.slice gj _ cj, sj, by rw [fv_7 hq9 k7]; rfl, by rw [fv_7 hq9 k7]; exact hrj, rfl⟩)
 refine at_skip <| nx_block_normal <| Zx <| Zq <| Zg <| Zm Y <| Zc [_] Y call35 Y rfl (rclone_spec hv (by omega)) ?_
 rintro _ _ ⟨_, ⟨sj, hrj, rfl⟩, rfl⟩
 obtain ⟨gj, cj, rfl⟩ := hrj.form
 refine Zv (p_build (vs := [(0, _)]) (cs := #[_, _, _]) Y (run_build_struct (pl := #[(0, 1), (1, 1), (2, 1)]) zeroValue40 underlying40 (fun _ => by kernel_rfl) rfl)) ?_
 refine Xe (w_store_agg sizeOf40 Y Y (by (simp [Value.oneCell', Value.cells]; done)) Wu (by rfl) (by first | rfl | (simp; done)) Wb (by exact free_zero _)) ?_
 refine Z0 <| Zx <| at_ret ?_
 refine nx_endc1 rfl results34 Y Wh (loadVar_agg isAgg40 sizeOf40 Wn (rfl)) (by exact ⟨.slice gj _ cj, sj, by rw [fv_1 hq9 k3 k4 k5 k6 k7]; rfl, by rw [fv_1 hq9 k3 k4 k5 k6 k7]; exact hrj, rfl⟩)

end Go.Proofs.YtkgmgmkbgnkdnaaGreatDoor

namespace Go.Proofs.YtkgmgmkbgnkdnaaGreatDoor
open Go.Proofs.Tryz
open Go Go.RowKit Gw
set_option linter.unusedVariables false
set_option linter.unusedSimpArgs false
set_option maxRecDepth 100000
attribute [local irreducible] Gw.At Gw.Nx Gw.Ops
theorem valL_in {r : RowM} (h : r.ok) (c : Int) : -1000000000 ≤ valL r c ∧ valL r c ≤ 1000000000 := by
  obtain ⟨⟨h1, h2, h3⟩, h4, h5⟩ := h
  unfold inV at h1 h2 h3
  unfold valL
  split
  · omega
  · split
    · omega
    · split
      · omega
      · split <;> omega
theorem st_rangeI (v : Value) (p : Int) (rs : List RowM) (s : List Chunk) (hv : StIs v p rs s) (t c lo hi : Int) (hc : 0 ≤ c ∧ c ≤ 3) : Does Tryz.prog 28 #[v, .int .i64 t, .int .i64 c, .int .i64 lo, .int .i64 hi] [s] (fun r H' => ∃ so, RowS 5 67 r (rangeL rs t c.toNat lo hi).length (rowCells (rangeL rs t c.toNat lo hi)) so ∧ H' = [so, s]) := by
  have h := st_range v p rs s hv t c.toNat lo hi (by omega)
  rwa [show ((c.toNat : Nat) : Int) = c by omega] at h
theorem rangeL_sub {rs : List RowM} {t : Int} {c : Nat} {lo hi : Int} : (rangeL rs t c lo hi).length ≤ rs.length ∧ ∀ r ∈ rangeL rs t c lo hi, r ∈ rs := by
  have h := rangeL_perm rs t c lo hi
  exact ⟨by rw [h.length_eq]; exact List.length_filter_le _ _, fun r hr => (List.mem_filter.1 (h.mem_iff.1 hr)).1⟩
end Go.Proofs.YtkgmgmkbgnkdnaaGreatDoor
