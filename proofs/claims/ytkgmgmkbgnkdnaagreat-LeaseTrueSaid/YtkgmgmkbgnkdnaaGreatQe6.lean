/- eval: extreme, the steps of From, joined. -/
import Derived.Test.YtkgmgmkbgnkdnaaGreatEz
import Derived.Test.YtkgmgmkbgnkdnaaGreatQe5
namespace Go.Proofs.YtkgmgmkbgnkdnaaGreat
open Go.Proofs.Tryz
open Go Go.RowKit Gw
set_option linter.unusedVariables false
set_option linter.unusedSimpArgs false
set_option maxRecDepth 100000
attribute [local irreducible] Gw.At Gw.Nx Gw.Ops
theorem eextreme_spec (v : Value) (h1 : v.oneCell' = true) (hc : v.cells = #[v]) : Does Tryz.prog 64 #[v] [] (fun r H' => ∃ b, r = .func (.func 85) #[] #[.pointer (some ⟨b, 0, none⟩)] ∧ H' = [[(b, .cells #[v] 100 (0, 0))]]) := by
 refine spec_enter func64 rfl ntmps64 rfl ?_
 intro u R
 refine Zb [0] ?_
 refine Zq <| Zg <| Ze (w_box Y (cs := #[v]) hc) ?_
 rintro _ _ ⟨b, rfl, rfl⟩
 refine Za Y <| Z0 <| Zx <| Zq <| Zg <| Zv (p_makeFunc (vs := []) (us := [_]) Y Y) ?_
 refine Za Y <| Z0 <| Zx <| at_ret ?_
 refine nx_end1 rfl results64 Y (by exact ⟨b, rfl, rfl⟩)

theorem ext1_spec (v n : Int) (f : Bool) (b fid : Nat) (lt : Int → Int → Bool) (hcf : ∀ (args : Array Value) (w : World), (callFunc fid args).run Tryz.prog w = .ok (.enter fid args) w) (hlt : ∀ x y : Int, DoesR Tryz.prog fid #[.int .i64 x, .int .i64 y] [] (.bool (lt x y))) : DoesR Tryz.prog 85 #[.agg #[.slice none 0 0, .int .i64 v, .bool f], .int .i64 n, .pointer (some ⟨b, 0, none⟩)] [[(b, .cells #[.func (.func fid) #[] #[]] 100 (0, 0))]] (.agg #[.slice none 0 0, .int .i64 (if !f || lt n v then n else v), .bool true]) := by
 refine spec_enter func85 rfl ntmps85 rfl ?_
 intro u R
 refine Zb [0, 1, 2] ?_
 refine Zq <| Zg <| Ze (w_box Y (cs := #[_, _, _]) rfl) ?_
 rintro _ _ ⟨br, rfl, rfl⟩
 refine Ze (w_alloc zeroValue49 (cs := #[_, _, _]) rfl) ?_
 rintro _ _ ⟨bs, rfl, rfl⟩
 refine Z0 <| Zx <| Zq <| Zq <| Zg <| Zh 2 underlying49 rfl rfl sizeOf4 Y <| Zl isAgg4 Y ?_
 first | refine op_v (p_not_dec Y) ?_ | refine op_v (p_not Y) ?_
 refine Zm Y ?_
 refine ops_split_bool (t := 9) Y rfl (fun h1 => ?_) (fun h1 => ?_)
 ·
  refine op_skip Y rfl <| op_skip Y rfl <| op_skip Y rfl <| op_skip Y rfl <| op_skip Y rfl <| Zv (p_pick_t Y Y) <| Z0 <| Zx <| at_then Y <| Zg <| Zm Y <| Zh 1 underlying49 rfl rfl sizeOf3 Y <| Ze (Zs sizeOf3 Y Y rfl (hi := by first | omega | decide | (simp; done))) ?_
  rintro _ _ ⟨rfl, rfl⟩
  refine Z0 <| Zn [3, 5] ?_
  refine Zx <| Zq <| Zg <| Zh 2 underlying49 rfl rfl sizeOf4 Y <| Ze (Zs sizeOf4 Y Y rfl (hi := by first | omega | decide | (simp; done))) ?_
  rintro _ _ ⟨rfl, rfl⟩
  refine Z0 <| Zx <| Zq <| Zg <| Zo (by repeat (first | exact Has.here _ | apply Has.there)) (p_load_agg (cs := #[_, _, _]) isAgg49 sizeOf49 Y (by first | omega | decide | (simp; done)) (by rfl)) ?_
  refine Ze (w_store_agg sizeOf49 Y Y (by first | (simp [Value.oneCell']; done) | (simp [Value.oneCell', Value.cells]; done)) (by repeat (first | exact Upd.here _ | apply Upd.there)) (by rfl) (by first | rfl | (simp; done)) (by first | omega | decide | (simp; done)) (by exact free_zero _)) ?_
  rintro _ _ ⟨rfl, rfl⟩
  refine Z0 <| Zx <| at_ret ?_
  refine nx_endc1 rfl results85 Y (by repeat (first | exact Has.here _ | apply Has.there)) (loadVar_agg isAgg49 sizeOf49 (by first | decide | exact Nat.le_refl _ | (simp; done) | (simp; omega)) (rfl)) (by exact ⟨by simp_all; rfl, rfl⟩)
 ·
  refine Yl isAgg100 Y ?_
  refine Zf Y Y <| Yf 1 underlying49 rfl rfl sizeOf3 Y <| Yl isAgg3 Y ?_
  refine Zr [_, _] Y (hcf) Y rfl (hlt n v) ?_
  rintro _ _ ⟨rfl, rfl⟩
  refine Zv (p_pick_f Y Y) <| Z0 <| Zx ?_
  refine at_if_bool Y (fun h2 => ?_) (fun h2 => ?_)
  ·
   refine Zg <| Zm Y <| Zh 1 underlying49 rfl rfl sizeOf3 Y <| Ze (Zs sizeOf3 Y Y rfl (hi := by first | omega | decide | (simp; done))) ?_
   rintro _ _ ⟨rfl, rfl⟩
   refine Z0 <| Zn [3, 5] ?_
   refine Zx <| Zq <| Zg <| Zh 2 underlying49 rfl rfl sizeOf4 Y <| Ze (Zs sizeOf4 Y Y rfl (hi := by first | omega | decide | (simp; done))) ?_
   rintro _ _ ⟨rfl, rfl⟩
   refine Z0 <| Zx <| Zq <| Zg <| Zo (by repeat (first | exact Has.here _ | apply Has.there)) (p_load_agg (cs := #[_, _, _]) isAgg49 sizeOf49 Y (by first | omega | decide | (simp; done)) (by rfl)) ?_
   refine Ze (w_store_agg sizeOf49 Y Y (by first | (simp [Value.oneCell']; done) | (simp [Value.oneCell', Value.cells]; done)) (by repeat (first | exact Upd.here _ | apply Upd.there)) (by rfl) (by first | rfl | (simp; done)) (by first | omega | decide | (simp; done)) (by exact free_zero _)) ?_
   rintro _ _ ⟨rfl, rfl⟩
   refine Z0 <| Zx <| at_ret ?_
   refine nx_endc1 rfl results85 Y (by repeat (first | exact Has.here _ | apply Has.there)) (loadVar_agg isAgg49 sizeOf49 (by first | decide | exact Nat.le_refl _ | (simp; done) | (simp; omega)) (rfl)) (by exact ⟨by simp_all; rfl, rfl⟩)
  ·
   refine at_skip <| Zx <| Zq <| Zg <| Zh 2 underlying49 rfl rfl sizeOf4 Y <| Ze (Zs sizeOf4 Y Y rfl (hi := by first | omega | decide | (simp; done))) ?_
   rintro _ _ ⟨rfl, rfl⟩
   refine Z0 <| Zn [3, 5] ?_
   refine Zx <| Zq <| Zg <| Zo (by repeat (first | exact Has.here _ | apply Has.there)) (p_load_agg (cs := #[_, _, _]) isAgg49 sizeOf49 Y (by first | omega | decide | (simp; done)) (by rfl)) ?_
   refine Ze (w_store_agg sizeOf49 Y Y (by first | (simp [Value.oneCell']; done) | (simp [Value.oneCell', Value.cells]; done)) (by repeat (first | exact Upd.here _ | apply Upd.there)) (by rfl) (by first | rfl | (simp; done)) (by first | omega | decide | (simp; done)) (by exact free_zero _)) ?_
   rintro _ _ ⟨rfl, rfl⟩
   refine Z0 <| Zx <| at_ret ?_
   refine nx_endc1 rfl results85 Y (by repeat (first | exact Has.here _ | apply Has.there)) (loadVar_agg isAgg49 sizeOf49 (by first | decide | exact Nat.le_refl _ | (simp; done) | (simp; omega)) (rfl)) (by exact ⟨by simp_all; rfl, rfl⟩)

theorem from3_spec (x y : Int) : DoesR Tryz.prog 65 #[.int .i64 x, .int .i64 y] [] (.bool (decide (x < y))) := by
 refine spec_enter func65 rfl ntmps65 rfl ?_
 intro u R
 refine Zb [0, 1] ?_
 refine Zq <| Zg <| Za Y <| Z0 <| Zx <| Zq <| Zg <| Zm Y <| Zm Y ?_
 first | refine op_v (p_lss_nat Y Y) ?_ | refine op_v (p_lss Y Y) ?_
 refine Za Y <| Z0 <| Zx <| at_ret ?_
 refine nx_end1 rfl results65 Y (by exact ⟨by first | rfl | exact congrArg Value.bool (decide_eq_decide.2 (by omega)), rfl⟩)

theorem from4_spec (x y : Int) : DoesR Tryz.prog 66 #[.int .i64 x, .int .i64 y] [] (.bool (decide (y < x))) := by
 refine spec_enter func66 rfl ntmps66 rfl ?_
 intro u R
 refine Zb [0, 1] ?_
 refine Zq <| Zg <| Za Y <| Z0 <| Zx <| Zq <| Zg <| Zm Y <| Zm Y ?_
 first | refine op_v (p_gtr_nat Y Y) ?_ | refine op_v (p_gtr Y Y) ?_
 refine Za Y <| Z0 <| Zx <| at_ret ?_
 refine nx_end1 rfl results66 Y (by exact ⟨by first | rfl | exact congrArg Value.bool (decide_eq_decide.2 (by omega)), rfl⟩)

theorem from1_spec (v : Int) (f : Bool) (r : RowM) (h : -9223372036854775807 ≤ v ∧ v ≤ 9223372036854775806) : DoesR Tryz.prog 60 #[.agg #[.slice none 0 0, .int .i64 v, .bool f], .agg #[.int .i64 r.t, .int .i64 r.k, .int .i64 r.v.a, .int .i64 r.v.b, .int .i64 r.v.c]] [] (.agg #[.slice none 0 0, .int .i64 (v + 1), .bool f]) := by
 refine spec_enter func60 rfl ntmps60 rfl ?_
 intro u R
 refine Zb [0, 1] ?_
 refine Zq <| Zg <| Ze (w_box Y (cs := #[_, _, _]) rfl) ?_
 rintro _ _ ⟨br, rfl, rfl⟩
 refine Ze (w_box Y (cs := #[_, _, _, _, _]) rfl) ?_
 rintro _ _ ⟨bx, rfl, rfl⟩
 refine Ze (w_alloc zeroValue49 (cs := #[_, _, _]) rfl) ?_
 rintro _ _ ⟨b3, rfl, rfl⟩
 refine Z0 <| Zx <| Zq <| Zg <| Zh 1 underlying49 rfl rfl sizeOf3 Y <| Zl isAgg3 Y ?_
 first | (refine op_v (p_add_nat (n := 1) Y Y ?_) ?_; (focus (omega))) | (refine op_v (p_add Y Y (IntWalk.i64_in _ ?_)) ?_; (focus (omega)))
 refine Zh 1 underlying49 rfl rfl sizeOf3 Y <| Ze (Zs sizeOf3 Y Y rfl (hi := by first | omega | decide | (simp; done))) ?_
 rintro _ _ ⟨rfl, rfl⟩
 refine Z0 <| Zx <| Zq <| Zg <| Zo (by repeat (first | exact Has.here _ | apply Has.there)) (p_load_agg (cs := #[_, _, _]) isAgg49 sizeOf49 Y (by first | omega | decide | (simp; done)) (by rfl)) ?_
 refine Ze (w_store_agg sizeOf49 Y Y (by first | (simp [Value.oneCell']; done) | (simp [Value.oneCell', Value.cells]; done)) (by repeat (first | exact Upd.here _ | apply Upd.there)) (by rfl) (by first | rfl | (simp; done)) (by first | omega | decide | (simp; done)) (by exact free_zero _)) ?_
 rintro _ _ ⟨rfl, rfl⟩
 refine Z0 <| Zx <| at_ret ?_
 refine nx_endc1 rfl results60 Y (by repeat (first | exact Has.here _ | apply Has.there)) (loadVar_agg isAgg49 sizeOf49 (by first | decide | exact Nat.le_refl _ | (simp; done) | (simp; omega)) (rfl)) (by exact ⟨rfl, rfl⟩)

theorem from2_spec (v n : Int) (f : Bool) (h : -9223372036854775807 ≤ v + n ∧ v + n ≤ 9223372036854775806) : DoesR Tryz.prog 63 #[.agg #[.slice none 0 0, .int .i64 v, .bool f], .int .i64 n] [] (.agg #[.slice none 0 0, .int .i64 (v + n), .bool f]) := by
 refine spec_enter func63 rfl ntmps63 rfl ?_
 intro u R
 refine Zb [0, 1] ?_
 refine Zq <| Zg <| Ze (w_box Y (cs := #[_, _, _]) rfl) ?_
 rintro _ _ ⟨br, rfl, rfl⟩
 refine Ze (w_alloc zeroValue49 (cs := #[_, _, _]) rfl) ?_
 rintro _ _ ⟨b2, rfl, rfl⟩
 refine Z0 <| Zx <| Zq <| Zg <| Zh 1 underlying49 rfl rfl sizeOf3 Y <| Zl isAgg3 Y ?_
 refine Zm Y ?_
 first | (refine op_v (p_add_nat Y Y ?_) ?_; (focus (omega))) | (refine op_v (p_add Y Y (IntWalk.i64_in _ ?_)) ?_; (focus (omega)))
 refine Zh 1 underlying49 rfl rfl sizeOf3 Y <| Ze (Zs sizeOf3 Y Y rfl (hi := by first | omega | decide | (simp; done))) ?_
 rintro _ _ ⟨rfl, rfl⟩
 refine Z0 <| Zx <| Zq <| Zg <| Zo (by repeat (first | exact Has.here _ | apply Has.there)) (p_load_agg (cs := #[_, _, _]) isAgg49 sizeOf49 Y (by first | omega | decide | (simp; done)) (by rfl)) ?_
 refine Ze (w_store_agg sizeOf49 Y Y (by first | (simp [Value.oneCell']; done) | (simp [Value.oneCell', Value.cells]; done)) (by repeat (first | exact Upd.here _ | apply Upd.there)) (by rfl) (by first | rfl | (simp; done)) (by first | omega | decide | (simp; done)) (by exact free_zero _)) ?_
 rintro _ _ ⟨rfl, rfl⟩
 refine Z0 <| Zx <| at_ret ?_
 refine nx_endc1 rfl results63 Y (by repeat (first | exact Has.here _ | apply Has.there)) (loadVar_agg isAgg49 sizeOf49 (by first | decide | exact Nat.le_refl _ | (simp; done) | (simp; omega)) (rfl)) (by exact ⟨rfl, rfl⟩)

def rowVQ (r : RowM) : Value := .agg #[.int .i64 r.t, .int .i64 r.k, .int .i64 r.v.a, .int .i64 r.v.b, .int .i64 r.v.c]
theorem mget_ext {lm lm2 : List (Int × Value)} {k0 : Int} {v : Value} (hn : (lm.map (·.1)).Nodup) (hn2 : (lm2.map (·.1)).Nodup) (hp : ∀ p, p ∈ lm2 ↔ p = (k0, v) ∨ (p ∈ lm ∧ p.1 ≠ k0)) (k : Int) : mget k lm2 = if k = k0 then some v else mget k lm := by
  split
  · rename_i h
    rw [h]
    exact mget_mem hn2 ((hp _).2 (.inl rfl))
  · rename_i h
    cases hg : mget k lm with
    | some x => exact mget_mem hn2 ((hp _).2 (.inr ⟨mget_some hg, h⟩))
    | none =>
      cases hg2 : mget k lm2 with
      | none => rfl
      | some x =>
        rcases (hp _).1 (mget_some hg2) with e | ⟨e, _⟩
        · injection e with e1 e2; exact absurd e1 h
        · rw [mget_mem hn e] at hg; cases hg
theorem part_snoc {q : QM} {others : List RowM} {i : Nat} {x : RowM} (h : others[i]? = some x) (k : Int) : partQ q (others.take (i + 1)) k = (partQ q (others.take i) k).or (if x.t = q.ot ∧ x.k = k then some x else none) := by
  unfold partQ
  rw [take_snoc h, List.find?_append]
  congr 1
  simp only [List.find?_cons, List.find?_nil]
  split <;> simp_all
def PartM (q : QM) (others : List RowM) (lm : List (Int × Value)) : Prop := ∀ k, mget k lm = (partQ q others k).map rowVQ
theorem partM_keep {q : QM} {others : List RowM} {i : Nat} {x : RowM} {lm : List (Int × Value)} (h : others[i]? = some x) (hP : PartM q (others.take i) lm) (hx : ¬ x.t = q.ot ∨ (partQ q (others.take i) x.k).isSome = true) : PartM q (others.take (i + 1)) lm := by
  intro k
  rw [hP k, part_snoc h k]
  cases hg : partQ q (others.take i) k with
  | some y => rfl
  | none =>
    rw [if_neg]
    · rfl
    · rintro ⟨h1, rfl⟩
      rcases hx with hx | hx
      · exact hx h1
      · rw [hg] at hx; cases hx
theorem partM_put {q : QM} {others : List RowM} {i : Nat} {x : RowM} {lm lm2 : List (Int × Value)} (h : others[i]? = some x) (hP : PartM q (others.take i) lm) (hx : x.t = q.ot) (hs : (partQ q (others.take i) x.k).isSome = false) (hn : (lm.map (·.1)).Nodup) (hn2 : (lm2.map (·.1)).Nodup) (hp : ∀ p, p ∈ lm2 ↔ p = (x.k, rowVQ x) ∨ (p ∈ lm ∧ p.1 ≠ x.k)) : PartM q (others.take (i + 1)) lm2 := by
  intro k
  rw [mget_ext hn hn2 hp k, part_snoc h k]
  split
  · rename_i hk
    have : partQ q (others.take i) k = none := by
      rw [hk]
      cases hg : partQ q (others.take i) x.k with
      | none => rfl
      | some y => rw [hg] at hs; cases hs
    rw [this, if_pos ⟨hx, hk.symm⟩]
    rfl
  · rename_i hk
    rw [hP k, if_neg (fun h9 => hk h9.2.symm)]
    cases partQ q (others.take i) k <;> rfl
theorem partM_val {q : QM} {others : List RowM} {lm : List (Int × Value)} (hP : PartM q others lm) (k : Int) {y : RowM} (hy : y = (partQ q others k).getD ⟨0, 0, ⟨0, 0, 0⟩⟩) : (mget k lm).getD (.agg #[.int .i64 (⟨0, 0, ⟨0, 0, 0⟩⟩ : RowM).t, .int .i64 (⟨0, 0, ⟨0, 0, 0⟩⟩ : RowM).k, .int .i64 (⟨0, 0, ⟨0, 0, 0⟩⟩ : RowM).v.a, .int .i64 (⟨0, 0, ⟨0, 0, 0⟩⟩ : RowM).v.b, .int .i64 (⟨0, 0, ⟨0, 0, 0⟩⟩ : RowM).v.c]) = .agg #[.int .i64 y.t, .int .i64 y.k, .int .i64 y.v.a, .int .i64 y.v.b, .int .i64 y.v.c] ∧ (mget k lm).isSome = (partQ q others k).isSome := by
  rw [hP k, hy]
  cases partQ q others k <;> exact ⟨rfl, rfl⟩
theorem part_some {q : QM} {others : List RowM} {k : Int} {y : RowM} (hy : y = (partQ q others k).getD ⟨0, 0, ⟨0, 0, 0⟩⟩) (h : (partQ q others k).isSome = true) : partQ q others k = some y := by
  rw [hy]
  cases hp : partQ q others k with
  | none => rw [hp] at h; cases h
  | some x => rfl
theorem cellsM_row {sz : Nat} {e : TypeId} {p : Option Addr} {n c k : Nat} {xs : List Value} {s : List Chunk} (h : RowS sz e (.slice p n c) k xs s) : CellsM s p xs := by
  intro j u hu
  obtain ⟨hl, ⟨_, rfl, _⟩ | ⟨g, cap, cur, z, hv, rfl, _, _, _, htk, _⟩⟩ := h
  · have : xs = [] := List.eq_nil_of_length_eq_zero (by omega)
    subst this; cases hu
  · injection hv with h1 h2 h3
    subst h1
    refine ⟨g, 0, cur, e, z, rfl, by simp, ?_⟩
    have hj := (List.getElem?_eq_some_iff.1 hu).1
    rw [← htk, List.getElem?_take, if_pos (by omega), Array.getElem?_toList] at hu
    rwa [Nat.zero_add]
theorem join_snoc {q : QM} {rows others : List RowM} {i : Nat} {r : RowM} (h : rows[i]? = some r) : joinQ q (rows.take (i + 1)) others = joinQ q (rows.take i) others ++ pairQ q others r := by
  unfold joinQ
  rw [take_snoc h, List.flatMap_append, List.flatMap_singleton]
theorem pair_some {q : QM} {others : List RowM} {r y : RowM} (h : partQ q others (valL r q.bq) = some y) : pairQ q others r = [r, y] := by unfold pairQ; rw [h]
theorem pair_none {q : QM} {others : List RowM} {r : RowM} (h : partQ q others (valL r q.bq) = none) : pairQ q others r = [] := by unfold pairQ; rw [h]
theorem pair_len (q : QM) (others : List RowM) (r : RowM) : (pairQ q others r).length ≤ 2 := by unfold pairQ; split <;> simp
theorem join_len (q : QM) (rows others : List RowM) : (joinQ q rows others).length ≤ 2 * rows.length := by
  induction rows with
  | nil => simp [joinQ]
  | cons r rows ih =>
    have := pair_len q others r
    unfold joinQ at *
    rw [List.flatMap_cons, List.length_append, List.length_cons]
    omega

set_option maxHeartbeats 1000000 in
theorem joined_spec {M : List Chunk} {v vo : Value} {rows others : List RowM} (hv : RowsU M v rows) (ho : RowsU M vo others) (q : QM) (hbq : 0 ≤ q.bq ∧ q.bq ≤ 3) (hb : rows.length ≤ 100000000000) : Does Tryz.prog 67 #[.agg #[.int .i64 q.kd, .int .i64 q.tb, .int .i64 q.cl, .int .i64 q.lo, .int .i64 q.hi, .int .i64 q.bq, .int .i64 q.ot], v, vo] [M] (fun r H' => ∃ s, RowS 5 62 r (joinQ q rows others).length (rowCells (joinQ q rows others)) s ∧ H' = [s, M]) := by
 have hml : maxLen = 9223372036854775807 := rfl
 obtain ⟨p, cap, rfl, ⟨hl, hlc⟩, hg⟩ := id hv
 obtain ⟨po, capo, rfl, ⟨hlo, hlco⟩, hgo⟩ := id ho
 refine spec_enter func67 rfl ntmps67 rfl ?_
 intro u R
 refine Zb [0, 1, 2] ?_
 refine Zq <| Zg <| Ze (w_box Y (cs := #[_, _, _, _, _, _, _]) rfl) ?_
 rintro _ _ ⟨bq, rfl, rfl⟩
 refine Za Y <| Z0 <| Zx <| Zq <| Zg <| Ze (w_makeMap) ?_
 rintro _ _ ⟨mb, rfl, rfl⟩
 refine Za Y <| Z0 <| Zx <| Zq <| Zq <| Zg <| Zm Y <| Zv (p_len_slice underlying47 Y) <| Zm Y <| Z0 <| Zx <| at_block <| Zb [19, 1, 3, 6, 7, 17, 18] ?_
 refine at_loopB (e0 := [(19, _)]) (H0 := _) (n := _) (fun m e H => ∃ (i : Nat) (es : Array MapEntry) (ck : Nat) (lm : List (Int × Value)), m = others.length - i ∧ (i ≤ others.length ∧ MapM (fun k : Int => .int .i64 k) es ck lm ∧ PartM q (others.take i) lm) ∧ e = [(19, .int .i64 (i : Int))] ∧ H = [[(mb, .map es ck)]]) (by exact ⟨0, #[], 0, [], rfl, ⟨Nat.zero_le _, mapM_new _, fun k => rfl⟩, rfl, rfl⟩) (by repeat (first | exact Pull.nil _ | (apply Pull.cons; (focus (repeat (first | exact One.here _ _ | apply One.there)))))) ?_
 rintro _ _ _ ⟨i, es, ck, lm, rfl, ⟨hi, hm, hP⟩, rfl, rfl⟩
 refine Zq <| Zg ?_
 first | refine op_v (p_lss_nat Y Y) ?_ | refine op_v (p_lss Y Y) ?_
 refine Z0 <| Zx <| Zq ?_
 first | refine at_if Y (fun hlt => ?_) (fun hlt => ?_) | refine at_if_bool Y (fun hlt => ?_) (fun hlt => ?_)
 ·
  obtain ⟨x, hx⟩ : ∃ x, others[i]? = some x := ⟨_, List.getElem?_eq_getElem hlt⟩
  obtain ⟨g1, off1, cur1, T1, zz1, rfl, hm1, hsz1, hex1⟩ := hgo i x hx
  refine at_skip <| Zx <| Zq <| at_block <| Zq <| Zg ?_
  (refine op_v (p_indexAddr_nat underlying47 sizeOf62 Y Y ?_) ?_; (focus (first | omega | decide | (simp; done))))
  refine op_rm (cs := [(g1, .cells cur1 T1 zz1)]) (by simp [hm1]) (p_load_agg (cs := #[.int .i64 x.t, .int .i64 x.k, .int .i64 x.v.a, .int .i64 x.v.b, .int .i64 x.v.c]) isAgg62 sizeOf62 Y (by omega) hex1) rfl rfl ?_
  refine Ze (w_alloc zeroValue62 (cs := #[_, _, _, _, _]) rfl) ?_
  rintro _ _ ⟨bx, rfl, rfl⟩
  refine Ze (w_store_agg sizeOf62 Y Y (by first | (simp [Value.oneCell']; done) | (simp [Value.oneCell', Value.cells]; done)) (by repeat (first | exact Upd.here _ | apply Upd.there)) (by exact (rfl : _ = (#[.int .i64 x.t, .int .i64 x.k, .int .i64 x.v.a, .int .i64 x.v.b, .int .i64 x.v.c] : Array Value))) (by first | rfl | (simp; done)) (by first | omega | decide | (simp; done)) (by exact free_zero _)) ?_
  rintro _ _ ⟨rfl, rfl⟩
  refine Z0 <| Zx <| Zq ?_
  obtain ⟨y0, hy0⟩ : ∃ y, y = (partQ q (others.take i) x.k).getD ⟨0, 0, ⟨0, 0, 0⟩⟩ := ⟨_, rfl⟩
  refine Zg <| Zm Y <| Zh 1 underlying62 rfl rfl sizeOf3 Y <| Zl isAgg3 Y ?_
  refine Zo (by repeat (first | exact Has.here _ | apply Has.there)) (p_lookupV intKey underlying134 zeroValue62 hm (fun _ _ => trivial) (trivial) (partM_val hP x.k hy0) Y Y) ?_
  refine Zm Y <| Zd Y rfl <| Zd Y rfl <| Ze (w_alloc zeroValue62 (cs := #[_, _, _, _, _]) rfl) ?_
  rintro _ _ ⟨bt, rfl, rfl⟩
  refine Ze (w_store_agg sizeOf62 Y Y (by first | (simp [Value.oneCell']; done) | (simp [Value.oneCell', Value.cells]; done)) (by repeat (first | exact Upd.here _ | apply Upd.there)) (by exact (rfl : _ = (#[.int .i64 y0.t, .int .i64 y0.k, .int .i64 y0.v.a, .int .i64 y0.v.b, .int .i64 y0.v.c] : Array Value))) (by first | rfl | (simp; done)) (by first | omega | decide | (simp; done)) (by exact free_zero _)) ?_
  rintro _ _ ⟨rfl, rfl⟩
  refine Za Y <| Z0 <| Zn [1, 3, 6, 7, 9, 11, 17, 18, 19] ?_
  refine Zx <| Zq ?_
  obtain ⟨y0, hy0⟩ : ∃ y, y = (partQ q (others.take i) x.k).getD ⟨0, 0, ⟨0, 0, 0⟩⟩ := ⟨_, rfl⟩
  refine Zg <| Zh 0 underlying62 rfl rfl sizeOf3 Y <| Zl isAgg3 Y ?_
  refine Zh 6 underlying29 rfl rfl sizeOf3 Y <| Zl isAgg3 Y ?_
  first | refine op_v (p_eql_nat Y Y) ?_ | refine op_v (p_eql Y Y) ?_
  refine Zm Y ?_
  first | refine ops_split (t := 35) Y rfl (fun h1 => ?_) (fun h1 => ?_) | refine ops_split_bool (t := 35) Y rfl (fun h1 => ?_) (fun h1 => ?_)
  ·
   refine Zf Y Y ?_
   first | refine op_wg Y (p_not_dec Y) rfl rfl ?_ | refine op_wg Y (p_not Y) rfl rfl ?_
   refine Zv (p_pick_t Y Y) <| Z0 <| Zx ?_
   refine at_if_bool Y (fun h2 => ?_) (fun h2 => ?_)
   ·
    refine Zg <| Zm Y <| Zh 1 underlying62 rfl rfl sizeOf3 Y <| Zl isAgg3 Y ?_
    refine Zo (by repeat (first | exact Has.here _ | apply Has.there)) (p_load_agg (cs := #[_, _, _, _, _]) isAgg62 sizeOf62 Y (by first | omega | decide | (simp; done)) (by rfl)) ?_
    refine Ze (w_mapUpdate intKey underlying134 hm (fun _ _ => trivial) (trivial) Y Y Y (by repeat (first | exact One.here _ _ | apply One.there))) ?_
    rintro _ _ ⟨rfl, es2, ck2, lm2, hm2, hp2, rfl⟩
    have hP2 : PartM q (others.take (i + 1)) lm2 := partM_put hx hP h1 (by simpa using h2) hm.keys hm2.keys hp2
    refine Z0 <| Zn [1, 3, 6, 7, 17, 18, 19] ?_
    refine nx_block_normal <| Zx <| Zg ?_
    first | (refine op_v (p_add_nat (n := 1) Y Y ?_) ?_; (focus (omega))) | (refine op_v (p_add Y Y (IntWalk.i64_in _ ?_)) ?_; (focus (omega)))
    refine Zm Y <| Z0 <| Zn [19, 1, 3, 6, 7, 17, 18] ?_
    refine nx_againB (e' := [(19, _)]) (m := _) (H' := _) (by first | exact ⟨i + 1, _, _, _, rfl, ⟨by omega, hm2, hP2⟩, rfl, rfl⟩ | exact ⟨i + 1, es, ck, lm, rfl, ⟨by omega, hm, partM_keep hx hP (by first | exact .inl (by omega) | exact .inr (by simpa using h2))⟩, rfl, rfl⟩)
   ·
    refine at_skip <| nx_block_normal <| Zx <| Zg ?_
    first | (refine op_v (p_add_nat (n := 1) Y Y ?_) ?_; (focus (omega))) | (refine op_v (p_add Y Y (IntWalk.i64_in _ ?_)) ?_; (focus (omega)))
    refine Zm Y <| Z0 <| Zn [19, 1, 3, 6, 7, 17, 18] ?_
    refine nx_againB (e' := [(19, _)]) (m := _) (H' := _) (by first | exact ⟨i + 1, _, _, _, rfl, ⟨by omega, hm2, hP2⟩, rfl, rfl⟩ | exact ⟨i + 1, es, ck, lm, rfl, ⟨by omega, hm, partM_keep hx hP (by first | exact .inl (by omega) | exact .inr (by simpa using h2))⟩, rfl, rfl⟩)
  ·
   refine op_skip Y rfl <| op_skip Y rfl <| Zv (p_pick_f Y Y) <| Z0 <| Zx <| at_else Y <| at_skip <| nx_block_normal <| Zx <| Zg ?_
   first | (refine op_v (p_add_nat (n := 1) Y Y ?_) ?_; (focus (omega))) | (refine op_v (p_add Y Y (IntWalk.i64_in _ ?_)) ?_; (focus (omega)))
   refine Zm Y <| Z0 <| Zn [19, 1, 3, 6, 7, 17, 18] ?_
   refine nx_againB (e' := [(19, _)]) (m := _) (H' := _) (by first | exact ⟨i + 1, _, _, _, rfl, ⟨by omega, hm2, hP2⟩, rfl, rfl⟩ | exact ⟨i + 1, es, ck, lm, rfl, ⟨by omega, hm, partM_keep hx hP (by first | exact .inl (by omega) | exact .inr (by simpa using h2))⟩, rfl, rfl⟩)
 ·
  have ei : i = others.length := by omega
  subst ei
  rw [List.take_length] at hP
  refine at_exit <| Zt <| Zt <| nx_block_exit <| Zx <| Zq <| Zq <| Zg <| Zo (by repeat (first | exact Has.here _ | apply Has.there)) (p_load_agg (cs := #[_, _, _, _, _, _, _]) isAgg29 sizeOf29 Y (by first | omega | decide | (simp; done)) (by rfl)) ?_
  refine Zm Y <| Zc [_, _] Y call62 Y rfl (meas_spec hv q hbq (by omega)) ?_
  rintro _ _ ⟨_, ⟨sm, hrm, rfl⟩, rfl⟩
  obtain ⟨gm, cm, rfl⟩ := hrm.form
  refine Zv (p_len_slice underlying114 Y) <| Zm Y <| Z0 <| Zx <| at_block <| at_nil ?_
  have hcs : CellsM sm gm ((measT q rows).map ivQ) := cellsM_row hrm
  have hml2 := meas_len q rows
  refine Zb [6, 48, 1, 7, 46, 47] ?_
  refine at_loopB (e0 := [(6, _), (48, _)]) (H0 := _) (n := _) (fun m e H => ∃ (i : Nat) (w : Value) (so : List Chunk), m = rows.length - i ∧ (i ≤ rows.length ∧ RowS 5 62 w (joinQ q (rows.take i) others).length (rowCells (joinQ q (rows.take i) others)) so) ∧ e = [(6, w), (48, .int .i64 (i : Int))] ∧ H = [so]) (by exact ⟨0, .slice none 0 0, [], rfl, ⟨Nat.zero_le _, by rw [List.take_zero]; exact rowS_nil 5 _⟩, rfl, rfl⟩) (by repeat (first | exact Pull.nil _ | (apply Pull.cons; (focus (repeat (first | exact One.here _ _ | apply One.there)))))) ?_
  rintro _ _ _ ⟨i, w, so, rfl, ⟨hi, hro⟩, rfl, rfl⟩
  obtain ⟨qo, co, rfl⟩ := hro.form
  have hjl : (joinQ q (rows.take i) others).length ≤ 2 * i := Nat.le_trans (join_len _ _ _) (by rw [List.length_take]; omega)
  refine Zq <| Zg ?_
  first | refine op_v (p_lss_nat Y Y) ?_ | refine op_v (p_lss Y Y) ?_
  refine Z0 <| Zx <| Zq ?_
  first | refine at_if Y (fun hlt => ?_) (fun hlt => ?_) | refine at_if_bool Y (fun hlt => ?_) (fun hlt => ?_)
  ·
   obtain ⟨r, hr⟩ : ∃ r, rows[i]? = some r := ⟨_, List.getElem?_eq_getElem (by omega)⟩
   obtain ⟨g2, off2, cur2, T2, zz2, rfl, hm2, hex2⟩ := hcs i (ivQ (valL r q.bq)) (by rw [List.getElem?_map, meas_at hr]; rfl)
   have hex8 : cur2[off2 + i]? = some (.int .i64 (valL r q.bq)) := hex2
   obtain ⟨y1, hy1⟩ : ∃ y, y = (partQ q others (valL r q.bq)).getD ⟨0, 0, ⟨0, 0, 0⟩⟩ := ⟨_, rfl⟩
   refine at_skip <| Zx <| Zq <| at_block <| Zq <| Zg <| Zm Y ?_
   first | (refine op_v (p_indexAddr_nat0 underlying114 sizeOf3 Y Y ?_) ?_; (focus (first | omega | decide | (simp; done)))) | (refine op_v (p_indexAddr_nat1 underlying114 sizeOf3 Y Y ?_) ?_; (focus (first | omega | decide | (simp; done))))
   refine op_rm (cs := [(g2, .cells cur2 T2 zz2)]) (by simp [hm2]) (p_load isAgg3 Y (by first | exact hex8 | (rw [Nat.mul_one]; exact hex8) | (rw [Nat.zero_add]; exact hex8))) rfl rfl ?_
   refine Za Y <| Za Y <| Z0 <| Zx <| Zq <| Zg <| Zm Y <| Zm Y <| Zo (by repeat (first | exact Has.here _ | apply Has.there)) (p_lookupV intKey underlying134 zeroValue62 hm (fun _ _ => trivial) (trivial) (partM_val hP (valL r q.bq) hy1) Y Y) ?_
   refine Zm Y <| Zd Y rfl <| Zd Y rfl <| Ze (w_alloc zeroValue62 (cs := #[_, _, _, _, _]) rfl) ?_
   rintro _ _ ⟨by1, rfl, rfl⟩
   refine Ze (w_store_agg sizeOf62 Y Y (by first | (simp [Value.oneCell']; done) | (simp [Value.oneCell', Value.cells]; done)) (by repeat (first | exact Upd.here _ | apply Upd.there)) (by exact (rfl : _ = (#[.int .i64 y1.t, .int .i64 y1.k, .int .i64 y1.v.a, .int .i64 y1.v.b, .int .i64 y1.v.c] : Array Value))) (by first | rfl | (simp; done)) (by first | omega | decide | (simp; done)) (by exact free_zero _)) ?_
   rintro _ _ ⟨rfl, rfl⟩
   refine Za Y <| Z0 <| Zn [1, 6, 7, 12, 14, 15, 46, 47, 48] ?_
   refine Zx <| Zq <| Zg <| Zm Y <| Z0 <| Zx ?_
   refine at_if_bool Y (fun h5 => ?_) (fun h5 => ?_)
   ·
    obtain ⟨g3, off3, cur3, T3, zz3, rfl, hm3, hsz3, hex3⟩ := hg i r hr
    refine at_draw (n := 9) (0 :: 0 :: 0 :: 6 :: 14 :: 0 :: 62 :: 127 :: 255 :: []) 192 (by kernel_rfl) (by kernel_rfl) rfl ?_
    refine Zi 1 0 rfl (p_move Y) <| Zi 3 1 rfl (p_move Y) <| Zi 7 2 rfl (p_move Y) ?_
    (refine lin_v (D' := 15) 3 (p_indexAddr_nat underlying47 sizeOf62 Y Y ?_) ?_; (focus (first | omega | decide | (simp; done))))
    refine lin_rm (b := g3) (x := .cells cur3 T3 zz3) (D' := 31) 4 rfl rfl rfl (by simp [hm3]) (p_load_agg (cs := #[.int .i64 r.t, .int .i64 r.k, .int .i64 r.v.a, .int .i64 r.v.b, .int .i64 r.v.c]) isAgg62 sizeOf62 Y (by omega) hex3) ?_
    refine lin_r (D' := 63) 5 rfl rfl rfl (by repeat (first | exact Has.here _ | apply Has.there)) (p_load_agg (cs := #[_, _, _, _, _]) isAgg62 sizeOf62 Y (by first | omega | decide | (simp; done)) (by rfl)) ?_
    refine Zz (l := [6]) ?_
    refine Zy 62 127 [5, 4] [false, false] [] rfl Y rfl rfl rfl rfl (w_buildSlice (vs := [_, _]) (cs := [_, _, _, _, _, _, _, _, _, _]) underlying47 sizeOf62 zeroValue62 Y rfl rfl rfl rfl rfl) ?hk_6 (fun _ _ h => h.elim) ?hl_6
    case hk_6 =>
     rintro _ _ ⟨gb, rfl, rfl⟩
     refine ⟨keep_nil, ?_⟩
     refine Zz (l := [7]) ?_
     refine Zy 127 255 [] [] [] rfl Y rfl rfl rfl rfl (w_append_subS (by_ := 40) (sz := 5) underlying47 (rfl : Tryz.prog.info? 62 = some Tryz.t62) rfl rfl rfl rfl Y (hro) Y (subS_new 5 gb 2 2 62 (0, 0) [.int .i64 r.t, .int .i64 r.k, .int .i64 r.v.a, .int .i64 r.v.b, .int .i64 r.v.c, .int .i64 y1.t, .int .i64 y1.k, .int .i64 y1.v.a, .int .i64 y1.v.b, .int .i64 y1.v.c] rfl) (by repeat (first | exact One.here _ _ | apply One.there)) (by repeat (first | exact One.here _ _ | apply One.there)) (by simp [Value.oneCell']) (by omega) (by omega)) ?hk_7 (fun _ _ h => h.elim) ?hl_7
     case hk_7 =>
      rintro _ _ ⟨sa9, hra9, rfl⟩
      refine ⟨keep_nil, ?_⟩
      obtain ⟨ga9, ca9, rfl⟩ := hra9.form
      refine Zi 511 8 rfl (p_assign Y) <| lin_nil ?_
      refine nx_block_normal <| Zx <| Zg ?_
      first | (refine op_v (p_add_nat (n := 1) Y Y ?_) ?_; (focus (omega))) | (refine op_v (p_add Y Y (IntWalk.i64_in _ ?_)) ?_; (focus (omega)))
      refine Zm Y <| Z0 <| Zn [6, 48, 1, 7, 46, 47] ?_
      refine nx_againB (e' := [(6, _), (48, _)]) (m := _) (H' := _) (by first | exact ⟨i + 1, _, _, rfl, ⟨by omega, rowS_eq hra9 (by rw [join_snoc hr, pair_some (part_some hy1 h5), List.length_append]; rfl) (by rw [join_snoc hr, pair_some (part_some hy1 h5), rowCells_app]; rfl)⟩, rfl, rfl⟩ | exact ⟨i + 1, _, so, rfl, ⟨by omega, by rw [join_snoc hr, pair_none (Option.not_isSome_iff_eq_none.1 (by simpa using h5)), List.append_nil]; exact hro⟩, rfl, rfl⟩)
     case hl_7 =>
      exact each_nil
    case hl_6 =>
     exact each_nil
   ·
    refine at_skip <| nx_block_normal <| Zx <| Zg ?_
    first | (refine op_v (p_add_nat (n := 1) Y Y ?_) ?_; (focus (omega))) | (refine op_v (p_add Y Y (IntWalk.i64_in _ ?_)) ?_; (focus (omega)))
    refine Zm Y <| Z0 <| Zn [6, 48, 1, 7, 46, 47] ?_
    refine nx_againB (e' := [(6, _), (48, _)]) (m := _) (H' := _) (by first | exact ⟨i + 1, _, _, rfl, ⟨by omega, rowS_eq hra9 (by rw [join_snoc hr, pair_some (part_some hy1 h5), List.length_append]; rfl) (by rw [join_snoc hr, pair_some (part_some hy1 h5), rowCells_app]; rfl)⟩, rfl, rfl⟩ | exact ⟨i + 1, _, so, rfl, ⟨by omega, by rw [join_snoc hr, pair_none (Option.not_isSome_iff_eq_none.1 (by simpa using h5)), List.append_nil]; exact hro⟩, rfl, rfl⟩)
  ·
   have ei : i = rows.length := by omega
   subst ei
   rw [List.take_length] at hro ⊢
   refine at_exit <| Zt <| Zt <| nx_block_exit <| Zx <| Zq <| Zg <| Zm Y <| Za Y <| Z0 <| Zx <| at_ret ?_
   refine nx_end1 rfl results67 Y (by exact ⟨so, hro, rfl⟩)

end Go.Proofs.YtkgmgmkbgnkdnaaGreat
