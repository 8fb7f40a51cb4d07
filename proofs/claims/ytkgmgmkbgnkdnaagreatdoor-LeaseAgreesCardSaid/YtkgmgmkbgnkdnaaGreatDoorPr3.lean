/- slices.IndexFunc, DeleteFunc, Insert at rows. -/
/- The patches of a result. -/
/- The patches of the kinds of queries (not joins). -/
import Derived.Test.YtkgmgmkbgnkdnaaGreatDoorEz
import Derived.Test.YtkgmgmkbgnkdnaaGreatDoorTr2
import Derived.Test.YtkgmgmkbgnkdnaaGreatDoorEx27
import Derived.Test.YtkgmgmkbgnkdnaaGreatDoorQe8

namespace Go.Proofs.YtkgmgmkbgnkdnaaGreatDoor
open Go.Proofs.Tryz
open Go Go.RowKit Gw
set_option linter.unusedVariables false
set_option linter.unusedSimpArgs false
set_option maxRecDepth 100000
attribute [local irreducible] Gw.At Gw.Nx Gw.Ops
def idxI (pd : RowM → Bool) (rows : List RowM) : Int := (rows.findIdx? pd).elim (-1) fun i => (i : Int)
theorem idx_some {pd : RowM → Bool} {rows : List RowM} {i : Nat} {x : RowM} (h : ∀ (j : Nat) (y : RowM), j < i → rows[j]? = some y → pd y = false) (hx : rows[i]? = some x) (hp : pd x = true) : idxI pd rows = (i : Int) := by
  obtain ⟨hi, rfl⟩ := List.getElem?_eq_some_iff.1 hx
  unfold idxI
  rw [List.findIdx?_eq_some_iff_getElem.2 ⟨hi, hp, fun j hj => by simp [h j _ hj (List.getElem?_eq_getElem (by omega))]⟩]
  rfl
theorem idx_none {pd : RowM → Bool} {rows : List RowM} (h : ∀ (j : Nat) (y : RowM), j < rows.length → rows[j]? = some y → pd y = false) : idxI pd rows = -1 := by
  unfold idxI
  rw [List.findIdx?_eq_none_iff.2 fun y hy => by
    obtain ⟨j, hj⟩ := List.getElem?_of_mem hy
    exact h j y (List.getElem?_eq_some_iff.1 hj).1 hj]
  rfl
theorem idx_cases (pd : RowM → Bool) (rows : List RowM) : (idxI pd rows = -1 ∧ ∀ y ∈ rows, pd y = false) ∨ ∃ (i : Nat) (x : RowM), idxI pd rows = (i : Int) ∧ rows[i]? = some x ∧ pd x = true ∧ ∀ (j : Nat) (y : RowM), j < i → rows[j]? = some y → pd y = false := by
  unfold idxI
  cases h : rows.findIdx? pd with
  | none => exact .inl ⟨rfl, List.findIdx?_eq_none_iff.1 h⟩
  | some i =>
    obtain ⟨h1, h2, h3⟩ := List.findIdx?_eq_some_iff_getElem.1 h
    refine .inr ⟨i, _, rfl, List.getElem?_eq_getElem h1, h2, fun j y hj hy => ?_⟩
    obtain ⟨h4, rfl⟩ := List.getElem?_eq_some_iff.1 hy
    simpa using h3 j hj
theorem prc_over {rs : List RowM} {k : Nat} (hk : k < rs.length) (x : RowM) : (rowCells rs).take (k * 5) ++ rowCells [x] ++ (rowCells rs).drop (k * 5 + (rowCells [x]).length) = rowCells (rs.set k x) := by
  rw [show k * 5 + (rowCells [x]).length = (k + 1) * 5 by rw [rowCells_len]; simp; omega, rowCells_take, rowCells_drop, ← rowCells_app, ← rowCells_app, List.set_eq_take_append_cons_drop, if_pos hk]
  simp
theorem ext_rows {cur : Array Value} {rs : List RowM} {k : Nat} {x : RowM} (hin : CellsIn cur 0 (rowCells rs)) (hx : rs[k]? = some x) : k * 5 + 5 ≤ cur.size ∧ cur.extract (0 + k * 5) (0 + k * 5 + 5) = (rowCells [x]).toArray := by
  have hk := (List.getElem?_eq_some_iff.1 hx).1
  have hs : k * 5 + 5 ≤ cur.size := by
    have h4 := rowCells_at hx 4 (by decide)
    have h5 := hin.get (k * 5 + 4) _ (h4.trans (by rfl))
    have := (Array.getElem?_eq_some_iff.1 h5).1
    omega
  refine ⟨hs, ?_⟩
  apply Array.toList_inj.1
  apply List.ext_getElem?
  intro j
  rw [Array.getElem?_toList, Array.getElem?_extract]
  split
  · rename_i hj
    have hj5 : j < 5 := by omega
    have h1 := rowCells_at hx j hj5
    obtain ⟨u, hu⟩ : ∃ u, (rowCells [x])[j]? = some u := ⟨_, List.getElem?_eq_getElem (by rw [rowCells_len]; simpa using hj5)⟩
    rw [hu] at h1
    have h2 := hin.get _ _ h1
    rw [Nat.zero_add] at h2
    rw [Nat.zero_add, h2]
    exact hu.symm
  · rw [List.getElem?_eq_none]
    show (rowCells [x]).length ≤ j
    rw [rowCells_len]
    simp only [List.length_singleton]
    omega
theorem set_take {α : Type} {xs : List α} {i : Nat} (hi : i < xs.length) (x : α) : (xs.set i x).take (i + 1) = xs.take i ++ [x] := by
  rw [List.set_eq_take_append_cons_drop, if_pos hi, List.take_append, List.length_take, Nat.min_eq_left (by omega)]
  rw [List.take_of_length_le (by rw [List.length_take]; omega), show i + 1 - i = 1 by omega]
  simp
theorem filter_snoc {rows : List RowM} {j : Nat} {x : RowM} (f : RowM → Bool) (hx : rows[j]? = some x) : (rows.take (j + 1)).filter f = (rows.take j).filter f ++ (if f x then [x] else []) := by
  rw [take_snoc hx, List.filter_append]
  congr 1
  rw [List.filter_cons, List.filter_nil]
theorem filter_all {rows : List RowM} {f : RowM → Bool} (h : ∀ (j : Nat) (y : RowM), rows[j]? = some y → f y = true) : rows.filter f = rows := List.filter_eq_self.2 fun y hy => by
  obtain ⟨j, hj⟩ := List.getElem?_of_mem hy
  exact h j y hj

theorem index_rows {A B : List Chunk} {v : Value} {rows : List RowM} (hv : RowsU A v rows) (fid : Nat) (us : List Value) (pd : RowM → Bool) (hcf : ∀ (args : Array Value) (w : World), (callFunc fid args).run Tryz.prog w = .ok (.enter fid args) w) (hf : ∀ x : RowM, DoesR Tryz.prog fid (.agg #[.int .i64 x.t, .int .i64 x.k, .int .i64 x.v.a, .int .i64 x.v.b, .int .i64 x.v.c] :: us).toArray [B] (.bool (pd x))) : DoesR Tryz.prog 54 #[v, .func (.func fid) #[] us.toArray] [A, B] (.int .i64 (idxI pd rows)) := by
 have hml : maxLen = 9223372036854775807 := rfl
 obtain ⟨p, cap, rfl, ⟨hl, hlc⟩, hg⟩ := id hv
 refine spec_enter func54 rfl ntmps54 rfl ?_
 intro u R
 refine Zb [0, 1] ?_
 refine Zq <| Zg <| Za Y <| Z0 <| Zx <| Zq <| Zq <| Zg <| Zm Y <| Zv (p_len_slice underlying38 Y) <| Zm Y <| Z0 <| Zx <| at_block <| Zb [8, 0, 1, 7] ?_
 refine at_loopB (e0 := [(8, _)]) (H0 := _) (n := _) (fun m e H => ∃ (i : Nat), m = rows.length - i ∧ (i ≤ rows.length ∧ ∀ (j : Nat) (y : RowM), j < i → rows[j]? = some y → pd y = false) ∧ e = [(8, .int .i64 (i : Int))] ∧ H = []) (by exact ⟨0, rfl, ⟨Nat.zero_le _, fun j y h => by omega⟩, rfl, rfl⟩) Wp ?_
 rintro _ _ _ ⟨i, rfl, ⟨hi, hno⟩, rfl, rfl⟩
 refine Zq <| Zg <| Zv (p_lss_nat Y Y) <| Z0 <| Zx <| Zq ?_
 refine at_if Y (fun hlt => ?_) (fun hlt => ?_)
 ·
  obtain ⟨x, hx⟩ : ∃ x, rows[i]? = some x := ⟨_, List.getElem?_eq_getElem hlt⟩
  obtain ⟨g, off, cur, T, zz, rfl, hm9, hsz9, hex9⟩ := hg i x hx
  refine at_skip <| Zx <| Zq <| at_block <| Zq <| Zg <| Zm Y <| Za Y <| Z0 <| Zx <| Zq <| Zg <| Zm Y <| Zm Y <| Zm Y ?_
  (refine op_v (p_indexAddr_nat underlying38 sizeOf67 Y Y ?_) ?_; (focus (first | omega | decide | (simp; done))))
  refine op_rm (cs := [(g, .cells cur T zz)]) (by simp [hm9]) (p_load_agg (cs := #[.int .i64 x.t, .int .i64 x.k, .int .i64 x.v.a, .int .i64 x.v.b, .int .i64 x.v.c]) isAgg67 sizeOf67 Y (by omega) hex9) rfl rfl ?_
  refine Xr [_] Y (hcf) Y rfl (hf x) ?_
  refine Z0 <| Zx ?_
  refine at_if_bool Y (fun hpx => ?_) (fun hpx => ?_)
  ·
   refine Zq <| Zg <| Zm Y <| Za Y <| Z0 <| Zx <| at_ret <| nx_block_ret <| Zt <| Zt <| nx_block_ret <| Zt ?_
   refine nx_end1 rfl results54 Y (by exact ⟨congrArg (Value.int .i64) (idx_some hno hx hpx).symm, rfl⟩)
  refine at_skip <| nx_block_normal <| Zx <| Zg <| Ya (n := 1) Y Y <| Zm Y <| Z0 <| Zn [8, 0, 1, 7] ?_
  refine nx_againB (e' := [(8, _)]) (m := _) (H' := _) (by exact ⟨i + 1, rfl, ⟨by omega, fun j y h1 h2 => by rcases Nat.lt_or_ge j i with h9 | h9; exact hno j y h9 h2; obtain rfl : j = i := (by omega); rw [hx] at h2; injection h2 with h2; subst h2; exact hpx⟩, rfl, rfl⟩)
 have ei : i = rows.length := by omega
 subst ei
 refine at_exit <| Zt <| Zt <| nx_block_exit <| Zx <| Zq <| Zg <| Za Y <| Z0 <| Zx <| at_ret ?_
 refine nx_end1 rfl results54 Y (by exact ⟨congrArg (Value.int .i64) (idx_none hno).symm, rfl⟩)

set_option maxHeartbeats 1000000 in
theorem delete_rows {B s : List Chunk} {v : Value} {rows : List RowM} (hrow : RowS 5 67 v rows.length (rowCells rows) s) (hn : rows.length ≤ 1000000000) (fid : Nat) (us : List Value) (pd : RowM → Bool) (hcf : ∀ (args : Array Value) (w : World), (callFunc fid args).run Tryz.prog w = .ok (.enter fid args) w) (hf : ∀ x : RowM, DoesR Tryz.prog fid (.agg #[.int .i64 x.t, .int .i64 x.k, .int .i64 x.v.a, .int .i64 x.v.b, .int .i64 x.v.c] :: us).toArray [B] (.bool (pd x))) : Does Tryz.prog 143 #[v, .func (.func fid) #[] us.toArray] [s, B] (fun r H' => ∃ s', RowS 5 67 r (rows.filter fun x => !pd x).length (rowCells (rows.filter fun x => !pd x)) s' ∧ H' = [s', B]) := by
 have hml : maxLen = 9223372036854775807 := rfl
 obtain ⟨p, cap, rfl⟩ := hrow.form
 have hU := rowsU_row hrow (by omega)
 refine spec_enter func143 rfl ntmps143 rfl ?_
 intro u R
 refine Zb [0, 1] ?_
 refine Zq <| Zg <| Za Y <| Z0 <| Zx <| Zq <| Zg <| Zm Y <| Zm Y <| Xr [_, _] Y call54 Y rfl (index_rows hU fid us pd hcf hf) ?_
 rcases idx_cases pd rows with ⟨e9, hall⟩ | ⟨k, x0, e9, hx0, hp0, hno⟩
 ·
  rw [e9]
  refine Za Y <| Z0 <| Zx <| Zq <| Zq <| Zg <| Zm Y <| Zv (p_eql Y Y) <| Z0 <| Zx ?_
  refine at_if Y (fun h1 => ?_) (fun h1 => ?_)
  ·
   refine Zq <| Zg <| Zm Y <| Za Y <| Z0 <| Zx <| at_ret <| Zt ?_
   refine nx_end1 rfl results143 Y (by exact ⟨_, rowS_eq hrow (congrArg List.length (filter_all fun j y hy => by rw [hall y (List.mem_of_getElem? hy)]; rfl).symm) (congrArg rowCells (filter_all fun j y hy => by rw [hall y (List.mem_of_getElem? hy)]; rfl).symm), rfl⟩)
  exact absurd rfl h1
 rw [e9]
 have hk0 := (List.getElem?_eq_some_iff.1 hx0).1
 obtain ⟨g, cap9, cur, z, hv9, rfl, hle9, hin9⟩ := rowS_some hrow (by omega)
 injection hv9 with hv1 hv2 hv3
 subst hv1 hv3
 refine Za Y <| Z0 <| Zx <| Zq <| Zq <| Zg <| Zm Y <| Zv (p_eql Y Y) <| Z0 <| Zx ?_
 refine at_if Y (fun h2 => ?_) (fun h2 => ?_)
 ·
  exfalso; omega
 refine at_skip <| Zx <| Zq <| Zq <| Zg <| Zm Y <| Ya (n := 1) Y Y <| Za Y <| Z0 <| Zx <| at_block <| Zb [5, 6, 0, 1] ?_
 refine at_loopB (e0 := [(5, _), (6, _)]) (H0 := _) (n := _) (fun m e H => ∃ (i j : Nat) (W : List RowM) (cur : Array Value), m = rows.length - j ∧ ((i < j ∧ j ≤ rows.length) ∧ W.length = rows.length ∧ RowS 5 67 (.slice (some ⟨g, 0, none⟩) rows.length cap) rows.length (rowCells W) [(g, .cells cur 67 z)] ∧ W.take i = (rows.take j).filter (fun x => !pd x) ∧ ∀ t, j ≤ t → W[t]? = rows[t]?) ∧ e = [(5, .int .i64 (i : Int)), (6, .int .i64 (j : Int))] ∧ H = [[(g, .cells cur 67 z)]]) (by exact ⟨k, k + 1, rows, cur, rfl, ⟨⟨by omega, by omega⟩, rfl, hrow, by rw [filter_snoc _ hx0, hp0]; simp only [Bool.not_true, Bool.false_eq_true, if_false, List.append_nil]; exact (filter_all (fun j y hy => by rw [List.getElem?_take] at hy; split at hy; rw [hno j y (by assumption) hy]; rfl; cases hy)).symm, fun t _ => rfl⟩, rfl, rfl⟩) Wp ?_
 rintro _ _ _ ⟨i, j, W, cur, rfl, ⟨hij, hWl, hrW, hWt, hWr⟩, rfl, rfl⟩
 obtain ⟨hinW, hcsW, hleW, hcmW, hfrW⟩ := rowS_in hrW
 refine Zq <| Zq <| Zg <| Zm Y <| Zm Y <| Zv (p_len_slice underlying38 Y) <| Zv (p_lss_nat Y Y) <| Z0 <| Zx ?_
 refine at_if Y (fun hlt => ?_) (fun hlt => ?_)
 ·
  obtain ⟨x, hx⟩ : ∃ x, rows[j]? = some x := ⟨_, List.getElem?_eq_getElem hlt⟩
  obtain ⟨hsz9, hex9⟩ := ext_rows hinW ((hWr j (Nat.le_refl _)).trans hx)
  refine at_skip <| Zx <| Zq <| at_block <| Zq <| Zg <| Zm Y <| Zm Y ?_
  (refine op_v (p_indexAddr_nat underlying38 sizeOf67 Y Y ?_) ?_; (focus (first | omega | decide | (simp; done))))
  refine Zo Wh (p_load_agg (cs := #[.int .i64 x.t, .int .i64 x.k, .int .i64 x.v.a, .int .i64 x.v.b, .int .i64 x.v.c]) isAgg67 sizeOf67 Y (by omega) hex9) ?_
  refine Ze (w_alloc zeroValue67 (cs := #[_, _, _, _, _]) rfl) ?_
  rintro _ _ ⟨bx, rfl, rfl⟩
  refine Xe (w_store_agg sizeOf67 Y Y (by (simp [Value.oneCell']; done)) Wu (by exact (rfl : _ = (#[.int .i64 x.t, .int .i64 x.k, .int .i64 x.v.a, .int .i64 x.v.b, .int .i64 x.v.c] : Array Value))) (by first | rfl | (simp; done)) Wb (by exact free_zero _)) ?_
  refine Z0 <| Zx <| Zq <| Zg <| Zm Y <| Zo Wh (p_load_agg (cs := #[_, _, _, _, _]) isAgg67 sizeOf67 Y Wb (by rfl)) ?_
  refine Xr [_] Y (hcf) Y rfl (hf x) ?_
  refine Zv (p_not Y) <| Z0 <| Zn [0, 1, 5, 6, 7, 29] ?_
  refine Zx ?_
  refine at_if_bool Y (fun hpx => ?_) (fun hpx => ?_)
  ·
   have hpx : pd x = false := by simpa using hpx
   have hrW2 := rowS_eq (xs' := rowCells (W.set i x)) (rowS_over (i := 0 + i * 5) (ys := rowCells [x]) hrW (by rw [rowCells_len, rowCells_len, List.length_singleton]; omega)) rfl (by rw [Nat.zero_add]; exact prc_over (by omega) x)
   refine Zq <| Zg <| Zm Y <| Zm Y <| Zo Wh (p_load_agg (cs := #[_, _, _, _, _]) isAgg67 sizeOf67 Y Wb (by rfl)) ?_
   (refine op_v (p_indexAddr_nat underlying38 sizeOf67 Y Y ?_) ?_; (focus (first | omega | decide | (simp; done))))
   refine Xe (w_store_agg sizeOf67 Y Y (by (simp [Value.oneCell']; done)) Wu (by exact (rfl : _ = over cur (0 + i * 5) (rowCells [x]))) (by first | rfl | (simp; done)) Wb (by exact hfrW)) ?_
   refine Z0 <| Zx <| Zg <| Zm Y <| Ya (n := 1) Y Y <| Za Y <| Z0 <| nx_block_normal <| Zx <| Zg <| Zm Y <| Ya (n := 1) Y Y <| Za Y <| Z0 <| Zn [5, 6, 0, 1] ?_
   refine nx_againB (e' := [(5, _), (6, _)]) (m := _) (H' := _) (by exact ⟨i + 1, j + 1, W.set i x, _, rfl, ⟨by omega, by rw [List.length_set]; exact hWl, hrW2, by rw [set_take (by omega), hWt, filter_snoc _ hx]; simp [hpx], fun t ht => by rw [List.getElem?_set_ne (by omega)]; exact hWr t (by omega)⟩, rfl, rfl⟩)
  have hpx : pd x = true := by simpa using hpx
  refine at_skip <| nx_block_normal <| Zx <| Zg <| Zm Y <| Ya (n := 1) Y Y <| Za Y <| Z0 <| Zn [5, 6, 0, 1] ?_
  refine nx_againB (e' := [(5, _), (6, _)]) (m := _) (H' := _) (by exact ⟨i, j + 1, W, cur, rfl, ⟨by omega, hWl, hrW, by rw [hWt, filter_snoc _ hx]; simp [hpx], fun t ht => hWr t (by omega)⟩, rfl, rfl⟩)
 have ej : j = rows.length := by omega
 subst ej
 rw [List.take_length] at hWt
 have hil : (rows.filter fun x => !pd x).length = i := by rw [← hWt, List.length_take]; omega
 refine at_exit <| Zt <| Zt <| nx_block_exit <| Zx <| Zq <| Zg <| Zm Y <| Zm Y ?_
 (refine op_v (p_slice_slice_from underlying38 sizeOf67 Y Y ?_) ?_; (focus (omega)))
 refine Ze (w_clear_subS underlying38 (rfl : Tryz.prog.info? 67 = some Tryz.t67) rfl rfl (by simp [Value.cells, Value.oneCell']) Y (by omega) hcsW hfrW Wo) ?_
 rintro _ _ rfl
 have hrW3 := rowS_less (rowS_over (i := i * 5) (ys := (Builtin.zeroCells (Value.agg #[.int .i64 0, .int .i64 0, .int .i64 0, .int .i64 0, .int .i64 0]).cells (rows.length - i)).toList) hrW (by rw [Array.length_toList, size_zeroCells, rowCells_len]; show i * 5 + (rows.length - i) * 5 ≤ _; omega)) i (by omega)
 refine Z0 <| Zx <| Zq <| Zg <| Zm Y <| Zm Y ?_
 (refine op_v (p_slice_slice_to underlying38 sizeOf67 Y Y ?_) ?_; (focus (omega)))
 refine Za Y <| Z0 <| Zx <| at_ret ?_
 refine nx_end1 rfl results143 Y (by
       refine ⟨_, rowS_eq hrW3 hil.symm ?_, rfl⟩
       rw [List.append_assoc, List.take_left' (by rw [List.length_take, rowCells_len]; omega), rowCells_take, hWt])

theorem ins_grow {A Y D : List Value} {i n : Nat} (hA : A.length = (n + 1) * 5) (hi : i ≤ n) (hY : Y.length = 5) (hD : D.length = (n - i) * 5) : (A.take (0 + i * 5) ++ Y ++ A.drop (0 + i * 5 + Y.length)).take (0 + (i + 1) * 5) ++ D ++ (A.take (0 + i * 5) ++ Y ++ A.drop (0 + i * 5 + Y.length)).drop (0 + (i + 1) * 5 + D.length) = A.take (i * 5) ++ Y ++ D := by
  rw [Nat.zero_add, Nat.zero_add, List.take_left' (by rw [List.length_append, List.length_take]; omega), List.drop_of_length_le (by simp only [List.length_append, List.length_take, List.length_drop]; omega), List.append_nil]
theorem ins_place {A Y D : List Value} {i n : Nat} (hA : A.length = (n + 1) * 5) (hi : i ≤ n) (hY : Y.length = 5) (hD : D.length = (n - i) * 5) : (A.take (0 + (i + 1) * 5) ++ D ++ A.drop (0 + (i + 1) * 5 + D.length)).take (0 + i * 5) ++ Y ++ (A.take (0 + (i + 1) * 5) ++ D ++ A.drop (0 + (i + 1) * 5 + D.length)).drop (0 + i * 5 + Y.length) = A.take (i * 5) ++ Y ++ D := by
  rw [Nat.zero_add, Nat.zero_add, List.drop_of_length_le (l := A) (by omega), List.append_nil, List.take_append_of_le_length (by rw [List.length_take]; omega), List.take_take, Nat.min_eq_left (by omega), List.drop_left' (by rw [List.length_take]; omega)]
theorem rows_ins (rows : List RowM) (i : Nat) (y : RowM) : (rowCells rows).take (i * 5) ++ rowCells [y] ++ rowCells (rows.drop i) = rowCells (rows.take i ++ [y] ++ rows.drop i) := by
  rw [rowCells_take, rowCells_app, rowCells_app]
theorem cells_drop {c : Array Value} {rows : List RowM} (h : CellsIn c 0 (rowCells rows)) (i : Nat) (hi : i ≤ rows.length) : CellsIn c (0 + i * 5) (rowCells (rows.drop i)) := by
  have h1 := cellsIn_part h (i * 5) ((rows.length - i) * 5) (by rw [rowCells_len]; omega)
  rw [rowCells_drop, List.take_of_length_le (by rw [rowCells_len, List.length_drop]; omega)] at h1
  exact h1
theorem cells_take {c : Array Value} {rows : List RowM} (h : CellsIn c 0 (rowCells rows)) (i : Nat) (hi : i ≤ rows.length) : CellsIn c 0 (rowCells (rows.take i)) := by
  have h1 := cellsIn_part h 0 (i * 5) (by rw [rowCells_len]; omega)
  rw [List.drop_zero, rowCells_take] at h1
  exact h1
theorem ins_len (rows : List RowM) (i : Nat) (hi : i ≤ rows.length) (y : RowM) : (rows.take i ++ [y] ++ rows.drop i).length = rows.length + 1 := by
  simp only [List.length_append, List.length_take, List.length_drop, List.length_singleton]; omega

set_option maxHeartbeats 1000000 in
theorem insert_rows {s : List Chunk} {v : Value} {rows : List RowM} (hrow : RowS 5 67 v rows.length (rowCells rows) s) (hn : rows.length ≤ 1000000000) (i : Nat) (hi : i ≤ rows.length) (y : RowM) (g2 : Nat) : Does Tryz.prog 144 #[v, .int .i64 (i : Int), .slice (some ⟨g2, 0, none⟩) 1 1] [s, [(g2, .cells #[.int .i64 y.t, .int .i64 y.k, .int .i64 y.v.a, .int .i64 y.v.b, .int .i64 y.v.c] 67 (0, 0))]] (fun r H' => ∃ s' s2, RowS 5 67 r (rows.take i ++ [y] ++ rows.drop i).length (rowCells (rows.take i ++ [y] ++ rows.drop i)) s' ∧ H' = [s', s2, [(g2, .cells #[.int .i64 y.t, .int .i64 y.k, .int .i64 y.v.a, .int .i64 y.v.b, .int .i64 y.v.c] 67 (0, 0))]]) := by
 have hml : maxLen = 9223372036854775807 := rfl
 obtain ⟨p, cap, rfl⟩ := hrow.form
 have hle := rowS_le hrow
 refine spec_enter func144 rfl ntmps144 rfl ?_
 intro u R
 refine Zb [0, 1, 2] ?_
 refine Zq <| Zg <| Za Y <| Z0 <| Zx <| Zq <| at_nil ?_
 refine Zg <| Zm Y <| Zm Y ?_
 (refine op_v (p_slice_slice_from underlying38 sizeOf67 Y Y ?_) ?_; (focus (omega)))
 refine Z0 <| Zx <| Zq <| Zg <| Zm Y <| Zv (p_len_slice underlying38 Y) <| Za Y <| Z0 <| Zx <| Zq <| Zq <| Zg <| Zm Y <| Zv (p_eql_nat (n := 0) Y Y) <| Z0 <| Zx ?_
 refine at_if Y (fun h0 => ?_) (fun h0 => ?_)
 ·
  cases h0
 refine at_skip <| Zx <| Zq <| Zg <| Zm Y <| Zv (p_len_slice underlying38 Y) <| Za Y <| Z0 <| Zx <| Zq <| Zq <| Zg <| Zm Y <| Zm Y <| Zv (p_eql_nat Y Y) <| Z0 <| Zn [0, 1, 2, 7, 8, 22] ?_
 refine Zx ?_
 refine at_if Y (fun hin => ?_) (fun hin => ?_)
 ·
  refine Zq <| Zg <| Zm Y <| Zm Y ?_
  refine Ze (w_append_subS (by_ := 40) (sz := 5) underlying38 (rfl : Tryz.prog.info? 67 = some Tryz.t67) rfl rfl rfl rfl Y (hrow) Y (subS_new 5 g2 1 1 67 (0, 0) (rowCells [y]) rfl) Wo Wo (by exact rowCells_one _) (by omega) (by omega)) ?_
  rintro _ _ ⟨sw5, hrw5, rfl⟩
  obtain ⟨gw5, cw5, rfl⟩ := hrw5.form
  refine Za Y <| Z0 <| Zx <| at_ret <| Zt ?_
  refine nx_end1 rfl results144 Y (by
        have hin : i = rows.length := by omega
        subst hin
        exact ⟨_, [], rowS_eq hrw5 (ins_len rows _ (Nat.le_refl _) y).symm (by rw [List.take_length, List.drop_length, List.append_nil, rowCells_app]), rfl⟩)
 obtain ⟨g, cap9, cur, z, hv9, rfl, hle9, hin9⟩ := rowS_some hrow (by omega)
 injection hv9 with hv1 hv2 hv3
 subst hv1 hv3
 obtain ⟨_, hcs, _, hcm, hfr⟩ := rowS_in hrow
 refine at_skip <| Zx <| Zq <| Zq <| Zg <| Zm Y <| Zm Y <| Ya Y Y <| Zm Y <| Zv (p_cap_slice underlying38 Y) <| Zv (p_gtr_nat Y Y) <| Z0 <| Zx ?_
 refine at_if Y (fun hg => ?_) (fun hg => ?_)
 ·
  refine Zq <| Zg <| Zm Y <| Zm Y ?_
  (refine op_v (p_slice_slice_to underlying38 sizeOf67 Y Y ?_) ?_; (focus (omega)))
  refine Zm Y <| Zm Y <| Ya Y Y <| Zm Y <| Yb Y Y ?_
  refine Ze (w_append_zerosS (by_ := 40) (sz := 5) (xs := rowCells (rows.take i)) underlying38 underlying3 (rfl : Tryz.prog.info? 67 = some Tryz.t67) rfl rfl rfl rfl Y Y Wh (cells_take hin9 i hi) (by rw [rowCells_len, List.length_take]; omega) (by omega) (by decide) (by omega) (by omega) (by omega)) ?_
  rintro _ _ ⟨s9, hr9, rfl⟩
  rw [show i + (rows.length + 1 - i) = rows.length + 1 by omega] at hr9
  have hAl := hr9.1
  obtain ⟨g3, cap3, cur3, z3, rfl, rfl, hle3, hin3⟩ := rowS_some hr9 (by omega)
  obtain ⟨_, hcs3, _, hcm3, hfr3⟩ := rowS_in hr9
  refine Za Y <| Z0 <| Zn [0, 1, 2, 7, 9] ?_
  refine Zx <| Zq <| Zg <| Zm Y <| Zm Y ?_
  (refine op_v (p_slice_slice_fromS underlying38 sizeOf67 Y Y ?_ ?_) ?_; (focus (omega)); (focus (omega)))
  refine Zm Y <| Xe (w_copyS (cs := rowCells [y]) underlying38 sizeOf67 Y Y Wh Wo ((rfl : CellsIn (#[.int .i64 y.t, .int .i64 y.k, .int .i64 y.v.a, .int .i64 y.v.b, .int .i64 y.v.c] : Array Value) 0 (rowCells [y]))) (by rw [rowCells_len, List.length_singleton]; omega) (by rw [rowCells_len, List.length_singleton]; omega) (hfr3) (rowCells_one _)) ?_
  refine Z0 <| Zx <| Zq <| at_draw (n := 9) (0 :: 0 :: 0 :: 6 :: 15 :: 0 :: 0 :: 96 :: 255 :: []) 256 (by kernel_rfl) (by kernel_rfl) rfl ?_
  refine Zi 1 0 rfl (p_move Y) <| Zi 3 1 rfl (p_move Y) <| Zi 7 2 rfl (p_move Y) ?_
  (refine lin_v (D' := 15) 3 (p_add_nat Y Y ?_) ?_; (focus (omega)))
  (refine lin_v (D' := 31) 4 (p_slice_slice_fromS underlying38 sizeOf67 Y Y ?_ ?_) ?_; (focus (omega)); (focus (omega)))
  refine Zi 63 5 rfl (p_move Y) <| Zi 127 6 rfl (p_move Y) ?_
  (refine lin_v (D' := 255) 7 (p_slice_slice_fromS underlying38 sizeOf67 Y Y ?_ ?_) ?_; (focus (omega)); (focus (omega)))
  refine Yz 8 255 511 [] [] [] rfl Y rfl rfl rfl rfl (w_copyS (cs := rowCells (rows.drop i)) underlying38 sizeOf67 Y Y Wh Wo (cells_drop hin9 i hi) (by rw [rowCells_len, List.length_drop]; omega) (by rw [rowCells_len, List.length_drop, over_len (by rw [rowCells_len, List.length_singleton]; omega)]; omega) (by rw [over_len (by rw [rowCells_len, List.length_singleton]; omega)]; exact hfr3) (rowCells_one _)) ?_
  rintro _ _ ⟨rfl, rfl⟩
  refine ⟨keep_nil, ?_⟩
  refine lin_nil ?_
  refine Zn [9] ?_
  refine Zx <| Zq <| Zg <| Zm Y <| Za Y <| Z0 <| Zx <| at_ret <| Zt ?_
  refine nx_end1 rfl results144 Y (by
        refine ⟨_, [(g, .cells cur 67 z)], rowS_eq (rowS_over (i := 0 + (i + 1) * 5) (ys := rowCells (rows.drop i)) (rowS_over (i := 0 + i * 5) (ys := rowCells [y]) hr9 (by rw [hAl, rowCells_len, List.length_singleton]; omega)) ?_) (ins_len rows i hi y).symm ?_, rfl⟩
        · simp only [List.length_append, List.length_take, List.length_drop, hAl, rowCells_len, List.length_singleton]; omega
        · rw [ins_grow hAl hi (by rw [rowCells_len]; rfl) (by rw [rowCells_len, List.length_drop]), List.take_left' (by rw [rowCells_len, List.length_take]; omega), ← rowCells_take, rows_ins])
 refine at_skip <| Zx <| Zq ?_
 obtain ⟨ys9, hyl9, hrM⟩ := rowS_more hrow (rows.length + 1) (by omega) (by omega)
 have hAl := hrM.1
 refine Zg <| Zm Y <| Zm Y <| Zm Y <| Ya Y Y ?_
 (refine op_v (p_slice_slice_to underlying38 sizeOf67 Y Y ?_) ?_; (focus (omega)))
 refine Za Y <| Z0 <| Zx <| Zq <| Zq ?_
 refine at_ne (s1 := [(g2, _)]) (s2 := [(g, _)]) (a := g2) (b := g) Wo Wo (List.mem_singleton.2 rfl) (List.mem_singleton.2 rfl) (fun hne9 => ?_)
 refine Zg <| Zm Y <| Zm Y <| Zm Y <| Zm Y <| Ya Y Y ?_
 (refine op_v (p_slice_slice_fromS underlying38 sizeOf67 Y Y ?_ ?_) ?_; (focus (omega)); (focus (omega)))
 refine op_rm (cs := [(g2, .cells #[.int .i64 y.t, .int .i64 y.k, .int .i64 y.v.a, .int .i64 y.v.b, .int .i64 y.v.c] 67 (0, 0)), (g, .cells cur 67 z)]) (by simp) (p_overlaps (tR := 4) func175 (by kernel_rfl) (by kernel_rfl) (by kernel_rfl) (by kernel_rfl) underlying38 sizeOf67 Y hne9 (by omega)) rfl rfl ?_
 refine Zv (p_not Y) <| Z0 <| Zn [0, 1, 2, 7, 8, 68] ?_
 refine Zx ?_
 refine at_if_bool Y (fun hb9 => ?_) (fun hb9 => ?_)
 ·
  refine Zq <| at_draw (n := 9) (0 :: 0 :: 0 :: 6 :: 15 :: 0 :: 0 :: 96 :: 255 :: []) 256 (by kernel_rfl) (by kernel_rfl) rfl ?_
  refine Zi 1 0 rfl (p_move Y) <| Zi 3 1 rfl (p_move Y) <| Zi 7 2 rfl (p_move Y) ?_
  (refine lin_v (D' := 15) 3 (p_add_nat Y Y ?_) ?_; (focus (omega)))
  (refine lin_v (D' := 31) 4 (p_slice_slice_fromS underlying38 sizeOf67 Y Y ?_ ?_) ?_; (focus (omega)); (focus (omega)))
  refine Zi 63 5 rfl (p_move Y) <| Zi 127 6 rfl (p_move Y) ?_
  (refine lin_v (D' := 255) 7 (p_slice_slice_fromS underlying38 sizeOf67 Y Y ?_ ?_) ?_; (focus (omega)); (focus (omega)))
  refine Yz 8 255 511 [] [] [] rfl Y rfl rfl rfl rfl (w_copyS (cs := rowCells (rows.drop i)) underlying38 sizeOf67 Y Y Wh Wo (cells_drop hin9 i hi) (by rw [rowCells_len, List.length_drop]; omega) (by rw [rowCells_len, List.length_drop]; omega) (hfr) (rowCells_one _)) ?_
  rintro _ _ ⟨rfl, rfl⟩
  refine ⟨keep_nil, ?_⟩
  refine lin_nil ?_
  refine Zx <| Zq <| Zg <| Zm Y <| Zm Y ?_
  (refine op_v (p_slice_slice_fromS underlying38 sizeOf67 Y Y ?_ ?_) ?_; (focus (omega)); (focus (omega)))
  refine Zm Y <| Xe (w_copyS (cs := rowCells [y]) underlying38 sizeOf67 Y Y Wh Wo ((rfl : CellsIn (#[.int .i64 y.t, .int .i64 y.k, .int .i64 y.v.a, .int .i64 y.v.b, .int .i64 y.v.c] : Array Value) 0 (rowCells [y]))) (by rw [rowCells_len, List.length_singleton]; omega) (by rw [rowCells_len, List.length_singleton, over_len (by rw [rowCells_len, List.length_drop]; omega)]; omega) (by rw [over_len (by rw [rowCells_len, List.length_drop]; omega)]; exact hfr) (rowCells_one _)) ?_
  refine Z0 <| Zn [0] ?_
  refine Zx <| Zq <| Zg <| Zm Y <| Za Y <| Z0 <| Zx <| at_ret <| Zt ?_
  refine nx_end1 rfl results144 Y (by
        refine ⟨_, [], rowS_eq (rowS_over (i := 0 + i * 5) (ys := rowCells [y]) (rowS_over (i := 0 + (i + 1) * 5) (ys := rowCells (rows.drop i)) hrM (by rw [hAl, rowCells_len, List.length_drop]; omega)) ?_) (ins_len rows i hi y).symm ?_, rfl⟩
        · simp only [List.length_append, List.length_take, List.length_drop, rowCells_len, hyl9, List.length_singleton]; omega
        · rw [ins_place hAl hi (by rw [rowCells_len]; rfl) (by rw [rowCells_len, List.length_drop]), List.take_append_of_le_length (by rw [rowCells_len]; omega), rows_ins])
 cases hb9

end Go.Proofs.YtkgmgmkbgnkdnaaGreatDoor


namespace Go.Proofs.YtkgmgmkbgnkdnaaGreatDoor
open Go.Proofs.Tryz
open Go Go.RowKit Gw
set_option linter.unusedVariables false
set_option linter.unusedSimpArgs false
set_option maxRecDepth 100000
attribute [local irreducible] Gw.At Gw.Nx Gw.Ops
def keyC (c : Chg) (x : RowM) : Bool := decide (x.t = c.t) && decide (x.k = c.k)
def behQ (q : QM) (y x : RowM) : Bool := decide (valL y q.cl < valL x q.cl) || (decide (valL x q.cl = valL y q.cl) && decide (y.k < x.k))
def insI (pd : RowM → Bool) (rows : List RowM) (y : RowM) : List RowM := rows.take ((rows.findIdx? pd).getD rows.length) ++ [y] ++ rows.drop ((rows.findIdx? pd).getD rows.length)
def patchRowsT (q : QM) (c : Chg) (rows : List RowM) : List RowM := match afQ q c with
  | some y => insI (behQ q y) (rows.filter fun x => !keyC c x) y
  | none => rows.filter fun x => !keyC c x
def extP (lt : Int → Int → Bool) (b a : Bool) (o n : Int) (r : ResM) : ResM × Bool :=
  if b && (!r.fnd || !lt r.val o) then (⟨r.rows, n, r.fnd⟩, (a && r.fnd) && !lt r.val n)
  else if a then (⟨r.rows, if !r.fnd || lt n r.val then n else r.val, true⟩, true) else (r, true)
def patchT (q : QM) (c : Chg) (r : ResM) : ResM × Bool :=
  if q.kd = 1 ∨ q.kd = 2 then (⟨patchRowsT q c r.rows, r.val, r.fnd⟩, true)
  else if q.kd = 3 then (⟨r.rows, if (afQ q c).isSome then r.val + 1 else r.val - 1, r.fnd⟩, true)
  else if q.kd = 4 then (⟨r.rows, r.val + (mQ q (afQ q c) - mQ q (bfQ q c)), r.fnd⟩, true)
  else if q.kd = 5 then extP (fun a b => decide (a < b)) (bfQ q c).isSome (afQ q c).isSome (mQ q (bfQ q c)) (mQ q (afQ q c)) r
  else extP (fun a b => decide (b < a)) (bfQ q c).isSome (afQ q c).isSome (mQ q (bfQ q c)) (mQ q (afQ q c)) r
theorem insI_len (pd : RowM → Bool) (rows : List RowM) (y : RowM) : (insI pd rows y).length = rows.length + 1 := by
  unfold insI
  simp only [List.length_append, List.length_take, List.length_drop, List.length_singleton]; omega
theorem patchRows_len (q : QM) (c : Chg) (rows : List RowM) : (patchRowsT q c rows).length ≤ rows.length + 1 := by
  have h := List.length_filter_le (fun x => !keyC c x) rows
  unfold patchRowsT
  split
  · rw [insI_len]; omega
  · omega
theorem extP_rows (lt : Int → Int → Bool) (b a : Bool) (o n : Int) (r : ResM) : (extP lt b a o n r).1.rows = r.rows := by
  unfold extP
  split
  · rfl
  · split <;> rfl
theorem patchT_len (q : QM) (c : Chg) (r : ResM) : (patchT q c r).1.rows.length ≤ r.rows.length + 1 := by
  have h := patchRows_len q c r.rows
  unfold patchT
  split
  · exact h
  · split
    · exact Nat.le_succ _
    · split
      · exact Nat.le_succ _
      · split <;> (rw [extP_rows]; exact Nat.le_succ _)
theorem idx_get (pd : RowM → Bool) (rows : List RowM) : (idxI pd rows < 0 ∧ (rows.findIdx? pd).getD rows.length = rows.length) ∨ ∃ i : Nat, i ≤ rows.length ∧ idxI pd rows = (i : Int) ∧ (rows.findIdx? pd).getD rows.length = i := by
  unfold idxI
  cases h : rows.findIdx? pd with
  | none => exact .inl ⟨by simp, rfl⟩
  | some i =>
    obtain ⟨h1, _, _⟩ := List.findIdx?_eq_some_iff_getElem.1 h
    exact .inr ⟨i, by omega, rfl, rfl⟩

theorem pkey_spec (q : QM) (c : Chg) (p1 p2 : Option Addr) (o n : Int) (x : RowM) (be : Nat) : DoesR Tryz.prog 114 #[.agg #[.int .i64 x.t, .int .i64 x.k, .int .i64 x.v.a, .int .i64 x.v.b, .int .i64 x.v.c], .pointer (some ⟨be, 0, none⟩)] [[(be, .cells #[.int .i64 q.kd, .int .i64 q.tb, .int .i64 q.cl, .int .i64 q.lo, .int .i64 q.hi, .int .i64 q.bq, .int .i64 q.ot, .int .i64 c.t, .int .i64 c.k, .bool c.had, .int .i64 c.o.a, .int .i64 c.o.b, .int .i64 c.o.c, .bool c.has, .int .i64 c.n.a, .int .i64 c.n.b, .int .i64 c.n.c, .pointer p1, .pointer p2, .int .i64 o, .int .i64 n] 114 (0, 0))]] (.bool (keyC c x)) := by
 refine spec_enter func114 rfl ntmps114 rfl ?_
 intro u R
 refine Zb [0, 1] ?_
 refine Zq <| Zg <| Ze (w_box Y (cs := #[_, _, _, _, _]) rfl) ?_
 rintro _ _ ⟨bx, rfl, rfl⟩
 refine Za Y <| Z0 <| Zx <| Zq <| Zg <| Zh 0 underlying67 rfl rfl sizeOf3 Y <| Zl isAgg3 Y ?_
 refine Zh 7 underlying114 rfl rfl sizeOf55 Y <| Zv (p_fieldAddr1 (off := 0) underlying55 rfl rfl sizeOf3 Y) <| Zl isAgg3 Y ?_
 refine Zv (p_eql Y Y) <| Zm Y ?_
 refine ops_split (t := 10) Y rfl (fun h1 => ?_) (fun h1 => ?_)
 ·
  refine Yf 1 underlying67 rfl rfl sizeOf3 Y <| Yl isAgg3 Y ?_
  refine Yf 7 underlying114 rfl rfl sizeOf55 Y <| Yg (p_fieldAddr1 (off := 1) underlying55 rfl rfl sizeOf3 Y) <| Yl isAgg3 Y ?_
  refine Yg (p_eql Y Y) <| Zv (p_pick_t Y Y) <| Za Y <| Z0 <| Zn [3] ?_
  refine Zx <| at_ret ?_
  refine nx_end1 rfl results114 Y (by exact ⟨by first | simp [keyC, h1] | (unfold keyC; simp [h1]), rfl⟩)
 refine op_skip Y rfl <| op_skip Y rfl <| op_skip Y rfl <| op_skip Y rfl <| op_skip Y rfl <| op_skip Y rfl <| Zv (p_pick_f Y Y) <| Za Y <| Z0 <| Zn [3] ?_
 refine Zx <| at_ret ?_
 refine nx_end1 rfl results114 Y (by exact ⟨by first | simp [keyC, h1] | (unfold keyC; simp [h1]), rfl⟩)

theorem without_rows {A B : List Chunk} {v : Value} {rows : List RowM} (hv : RowsU A v rows) (hn : rows.length ≤ 1000000000) (fid : Nat) (us : List Value) (pd : RowM → Bool) (hcf : ∀ (args : Array Value) (w : World), (callFunc fid args).run Tryz.prog w = .ok (.enter fid args) w) (hf : ∀ x : RowM, DoesR Tryz.prog fid (.agg #[.int .i64 x.t, .int .i64 x.k, .int .i64 x.v.a, .int .i64 x.v.b, .int .i64 x.v.c] :: us).toArray [B] (.bool (pd x))) : Does Tryz.prog 113 #[v, .func (.func fid) #[] us.toArray] [A, B] (fun r H' => ∃ s, RowS 5 67 r (rows.filter fun x => !pd x).length (rowCells (rows.filter fun x => !pd x)) s ∧ H' = [s, A, B]) := by
 obtain ⟨p, cap, rfl, _⟩ := id hv
 refine spec_enter func113 rfl ntmps113 rfl ?_
 intro u R
 refine Zb [0, 1] ?_
 refine Zq <| Zg <| Za Y <| Z0 <| Zx <| Zq <| Zg <| Zm Y <| Zc [_] Y call35 Y rfl (rclone_spec hv (by omega)) ?_
 rintro _ _ ⟨_, ⟨s1, h1, rfl⟩, rfl⟩
 obtain ⟨g1, c1, rfl⟩ := h1.form
 refine Zm Y <| Zc [_, _] Y call143 Y rfl (delete_rows h1 hn fid us pd hcf hf) ?_
 rintro _ _ ⟨_, ⟨s2, h2, rfl⟩, rfl⟩
 obtain ⟨g2, c2, rfl⟩ := h2.form
 refine Za Y <| Z0 <| Zx <| at_ret ?_
 refine nx_end1 rfl results113 Y (by exact ⟨_, h2, rfl⟩)

theorem inserted_rows {s B : List Chunk} {v : Value} {rows : List RowM} (hrow : RowS 5 67 v rows.length (rowCells rows) s) (hn : rows.length ≤ 1000000000) (y : RowM) (fid : Nat) (us : List Value) (pd : RowM → Bool) (hcf : ∀ (args : Array Value) (w : World), (callFunc fid args).run Tryz.prog w = .ok (.enter fid args) w) (hf : ∀ x : RowM, DoesR Tryz.prog fid (.agg #[.int .i64 x.t, .int .i64 x.k, .int .i64 x.v.a, .int .i64 x.v.b, .int .i64 x.v.c] :: us).toArray [B] (.bool (pd x))) : Does Tryz.prog 115 #[v, .agg #[.int .i64 y.t, .int .i64 y.k, .int .i64 y.v.a, .int .i64 y.v.b, .int .i64 y.v.c], .func (.func fid) #[] us.toArray] [s, B] (fun r H' => ∃ s' s2, RowS 5 67 r (insI pd rows y).length (rowCells (insI pd rows y)) s' ∧ H' = [s', s2, B]) := by
 have hml : maxLen = 9223372036854775807 := rfl
 obtain ⟨p, cap, rfl⟩ := hrow.form
 have hU := rowsU_row hrow (by omega)
 refine spec_enter func115 rfl ntmps115 rfl ?_
 intro u R
 refine Zb [0, 1, 2] ?_
 refine Zq <| Zg <| Ze (w_box Y (cs := #[_, _, _, _, _]) rfl) ?_
 rintro _ _ ⟨bx, rfl, rfl⟩
 refine Za Y <| Z0 <| Zx <| Zq <| Zg <| Zm Y <| Zm Y <| Xr [_, _] Y call54 Y rfl (index_rows hU fid us pd hcf hf) ?_
 obtain ⟨z9, hz9⟩ : ∃ z, z = idxI pd rows := ⟨_, rfl⟩
 rw [← hz9]
 have hcs9 := idx_get pd rows
 rw [← hz9] at hcs9
 refine Za Y <| Z0 <| Zx <| Zb [7, 0, 4] ?_
 refine at_cutB (e0 := [(7, _)]) (H0 := []) (fun e H => ∃ (i : Nat), (i ≤ rows.length ∧ (rows.findIdx? pd).getD rows.length = i) ∧ e = [(7, .int .i64 (i : Int))] ∧ H = []) Wp ?hx_1 ?hy_1
 case hx_1 =>
  refine Zq <| Zg <| Zm Y <| Zv (p_lss Y Y) <| Z0 <| Zx ?_
  refine at_if Y (fun hlt => ?_) (fun hlt => ?_)
  ·
   refine Zg <| Zm Y <| Zv (p_len_slice underlying38 Y) <| Za Y <| Z0 <| Zn [7, 0, 4] ?_
   refine nx_cutB (e' := [(7, _)]) (H' := _) (by exact ⟨rows.length, ⟨Nat.le_refl _, by rcases hcs9 with ⟨_, h⟩ | ⟨i, h1, h2, h3⟩; exact h; omega⟩, rfl, rfl⟩)
  rcases hcs9 with ⟨h9, _⟩ | ⟨i, h1, h2, h3⟩
  · exact absurd h9 hlt
  subst h2
  refine at_skip <| Zn [7, 0, 4] ?_
  refine nx_cutB (e' := [(7, _)]) (H' := _) (by exact ⟨i, ⟨h1, h3⟩, rfl, rfl⟩)
 rintro _ _ ⟨i, ⟨hi, hgi⟩, rfl, rfl⟩
 refine Zq <| Zg <| Zm Y <| Zm Y <| Zo Wh (p_load_agg (cs := #[_, _, _, _, _]) isAgg67 sizeOf67 Y Wn (by rfl)) ?_
 refine Ze (w_buildSlice (vs := [_]) (cs := [_, _, _, _, _]) underlying38 sizeOf67 zeroValue67 Y rfl rfl rfl rfl rfl) ?_
 rintro _ _ ⟨gy, rfl, rfl⟩
 refine Zc [_, _, _] Y call144 Y rfl (insert_rows hrow hn i hi y gy) ?_
 rintro _ _ ⟨_, ⟨s3, s4, h3, rfl⟩, rfl⟩
 obtain ⟨g3, c3, rfl⟩ := h3.form
 refine Za Y <| Z0 <| Zx <| at_ret ?_
 refine nx_end1 rfl results115 Y (by exact ⟨_, s4, by unfold insI; rw [hgi]; exact h3, rfl⟩)

end Go.Proofs.YtkgmgmkbgnkdnaaGreatDoor

namespace Go.Proofs.YtkgmgmkbgnkdnaaGreatDoor
open Go.Proofs.Tryz
open Go Go.RowKit Gw
set_option linter.unusedVariables false
set_option linter.unusedSimpArgs false
set_option maxRecDepth 100000
attribute [local irreducible] Gw.At Gw.Nx Gw.Ops
theorem behind_spec0 (q : QM) (hcl : 0 ≤ q.cl ∧ q.cl ≤ 3) (c : Chg) (p1 : Option Addr) (o n : Int) (y : RowM) (b2 : Nat) : Does Tryz.prog 116 #[.agg #[.int .i64 q.kd, .int .i64 q.tb, .int .i64 q.cl, .int .i64 q.lo, .int .i64 q.hi, .int .i64 q.bq, .int .i64 q.ot, .int .i64 c.t, .int .i64 c.k, .bool c.had, .int .i64 c.o.a, .int .i64 c.o.b, .int .i64 c.o.c, .bool c.has, .int .i64 c.n.a, .int .i64 c.n.b, .int .i64 c.n.c, .pointer p1, .pointer (some ⟨b2, 0, none⟩), .int .i64 o, .int .i64 n]] [[(b2, .cells #[.int .i64 y.t, .int .i64 y.k, .int .i64 y.v.a, .int .i64 y.v.b, .int .i64 y.v.c] 67 (0, 0))]] (fun r H' => ∃ be bv, r = .func (.func 145) #[] #[.pointer (some ⟨be, 0, none⟩), .pointer (some ⟨bv, 0, none⟩)] ∧ H' = [[(be, .cells #[.int .i64 q.kd, .int .i64 q.tb, .int .i64 q.cl, .int .i64 q.lo, .int .i64 q.hi, .int .i64 q.bq, .int .i64 q.ot, .int .i64 c.t, .int .i64 c.k, .bool c.had, .int .i64 c.o.a, .int .i64 c.o.b, .int .i64 c.o.c, .bool c.has, .int .i64 c.n.a, .int .i64 c.n.b, .int .i64 c.n.c, .pointer p1, .pointer (some ⟨b2, 0, none⟩), .int .i64 o, .int .i64 n] 114 (0, 0))], [(bv, .cells #[.int .i64 (valL y q.cl)] 3 (0, 0))], [(b2, .cells #[.int .i64 y.t, .int .i64 y.k, .int .i64 y.v.a, .int .i64 y.v.b, .int .i64 y.v.c] 67 (0, 0))]]) := by
 refine spec_enter func116 rfl ntmps116 rfl ?_
 intro u R
 refine Zb [0] ?_
 refine Zq <| Zg <| Ze (w_box Y (cs := #[.int .i64 q.kd, .int .i64 q.tb, .int .i64 q.cl, .int .i64 q.lo, .int .i64 q.hi, .int .i64 q.bq, .int .i64 q.ot, .int .i64 c.t, .int .i64 c.k, .bool c.had, .int .i64 c.o.a, .int .i64 c.o.b, .int .i64 c.o.c, .bool c.has, .int .i64 c.n.a, .int .i64 c.n.b, .int .i64 c.n.c, .pointer p1, .pointer (some ⟨b2, 0, none⟩), .int .i64 o, .int .i64 n]) (cells_e q c p1 (some ⟨b2, 0, none⟩) o n)) ?_
 rintro _ _ ⟨be, rfl, rfl⟩
 refine Za Y <| Z0 <| Zx <| Zq <| at_draw (n := 10) (0 :: 1 :: 3 :: 7 :: 0 :: 16 :: 48 :: 127 :: 0 :: 511 :: []) 896 (by kernel_rfl) (by kernel_rfl) rfl ?_
 refine Zi 1 0 rfl (p_fieldAddr0 (off := 18) underlying114 rfl rfl sizeOf112 Y) <| Zj 3 1 rfl isAgg112 Y ?_
 refine Zi 7 2 rfl (p_nilChk Y rfl) <| lin_r (D' := 15) 3 rfl rfl rfl Wh (p_load_agg (cs := #[_, _, _, _, _]) isAgg67 sizeOf67 Y Wb (by rfl)) ?_
 refine Zi 31 4 rfl (p_fieldAddr0 (off := 0) underlying114 rfl rfl sizeOf30 Y) <| Zi 63 5 rfl (p_fieldAddr1 (off := 2) underlying30 rfl rfl sizeOf3 Y) <| Zj 127 6 rfl isAgg3 Y ?_
 refine Zz (l := [7, 8]) ?_
 refine Zy 127 255 [6, 3, 1] [false, false, false] [] rfl Y rfl rfl rfl rfl (Zu [_, _] Y call56 Y rfl (rw_valueI y q.cl hcl)) ?hk_1 (fun _ _ h => h.elim) ?hl_1
 case hk_1 =>
  rintro _ _ ⟨rfl, rfl⟩
  refine ⟨keep_nil, ?_⟩
  refine Yz 8 0 511 [] [] [] rfl Y rfl rfl rfl rfl (w_alloc zeroValue3 (cs := #[_]) rfl) ?_
  rintro _ _ ⟨bv, rfl, rfl⟩
  refine ⟨keep_nil, ?_⟩
  refine Yz 9 511 1023 [] [] [] rfl Y rfl rfl rfl rfl (Zs sizeOf3 Y Y rfl (hi := by first | omega | decide | (simp; done))) ?_
  rintro _ _ ⟨rfl, rfl⟩
  refine ⟨keep_nil, ?_⟩
  refine lin_nil ?_
  refine Zx <| Zq <| Zg <| Zv (p_makeFunc (vs := []) (us := [_, _]) Y Y) ?_
  refine Za Y <| Z0 <| Zn [2] ?_
  refine Zx <| at_ret ?_
  refine nx_end1 rfl results116 Y (by exact ⟨be, bv, rfl, rfl⟩)
 refine Zy 0 383 [6, 3, 1] [true, true, true] [(6, (_, _)), (3, (_, _)), (1, (_, _))] rfl Y rfl rfl rfl rfl (w_alloc zeroValue3 (cs := #[_]) rfl) ?hk_5 (fun _ _ h => h.elim) ?hl_5
 case hk_5 =>
  rintro _ _ ⟨bv, rfl, rfl⟩
  refine ⟨Zk (Zk (Zk (keep_nil))), ?_⟩
  refine Yz 7 127 511 [6, 3, 1] [false, false, false] [] rfl Y rfl rfl rfl rfl (Zu [_, _] Y call56 Y rfl (rw_valueI y q.cl hcl)) ?_
  rintro _ _ ⟨rfl, rfl⟩
  refine ⟨keep_nil, ?_⟩
  refine Yz 9 511 1023 [] [] [] rfl Y rfl rfl rfl rfl (Zs sizeOf3 Y Y rfl (hi := by first | omega | decide | (simp; done))) ?_
  rintro _ _ ⟨rfl, rfl⟩
  refine ⟨keep_nil, ?_⟩
  refine lin_nil ?_
  refine Zx <| Zq <| Zg <| Zv (p_makeFunc (vs := []) (us := [_, _]) Y Y) ?_
  refine Za Y <| Z0 <| Zn [2] ?_
  refine Zx <| at_ret ?_
  refine nx_end1 rfl results116 Y (by exact ⟨be, bv, rfl, rfl⟩)
 exact each_nil

theorem behind_f0 (q : QM) (hcl : 0 ≤ q.cl ∧ q.cl ≤ 3) (c : Chg) (p1 : Option Addr) (o n : Int) (y : RowM) (b2 be bv : Nat) (x : RowM) : DoesR Tryz.prog 145 #[.agg #[.int .i64 x.t, .int .i64 x.k, .int .i64 x.v.a, .int .i64 x.v.b, .int .i64 x.v.c], .pointer (some ⟨be, 0, none⟩), .pointer (some ⟨bv, 0, none⟩)] [[(be, .cells #[.int .i64 q.kd, .int .i64 q.tb, .int .i64 q.cl, .int .i64 q.lo, .int .i64 q.hi, .int .i64 q.bq, .int .i64 q.ot, .int .i64 c.t, .int .i64 c.k, .bool c.had, .int .i64 c.o.a, .int .i64 c.o.b, .int .i64 c.o.c, .bool c.has, .int .i64 c.n.a, .int .i64 c.n.b, .int .i64 c.n.c, .pointer p1, .pointer (some ⟨b2, 0, none⟩), .int .i64 o, .int .i64 n] 114 (0, 0))], [(bv, .cells #[.int .i64 (valL y q.cl)] 3 (0, 0))], [(b2, .cells #[.int .i64 y.t, .int .i64 y.k, .int .i64 y.v.a, .int .i64 y.v.b, .int .i64 y.v.c] 67 (0, 0))]] (.bool (behQ q y x)) := by
 refine spec_enter func145 rfl ntmps145 rfl ?_
 intro u R
 refine Zb [0, 1, 2] ?_
 refine Zq <| Zg <| Ze (w_box Y (cs := #[_, _, _, _, _]) rfl) ?_
 rintro _ _ ⟨bx, rfl, rfl⟩
 refine Za Y <| Z0 <| Zx <| Zq <| Zg <| Zo Wh (p_load_agg (cs := #[_, _, _, _, _]) isAgg67 sizeOf67 Y Wb (by rfl)) ?_
 refine Zh 0 underlying114 rfl rfl sizeOf30 Y <| Zv (p_fieldAddr1 (off := 2) underlying30 rfl rfl sizeOf3 Y) <| Zl isAgg3 Y ?_
 refine Xr [_, _] Y call56 Y rfl (rw_valueI x q.cl hcl) ?_
 refine Za Y <| Z0 <| Zx <| Zq <| at_draw (n := 19) (0 :: 0 :: 3 :: 7 :: 15 :: 15 :: 63 :: 127 :: 255 :: 511 :: 255 :: 1279 :: 3327 :: 7423 :: 15615 :: 32767 :: 65535 :: 131071 :: 262143 :: []) 0 (by kernel_rfl) (by kernel_rfl) rfl ?_
 refine Zi 1 0 rfl (p_move Y) <| Zj 3 1 rfl isAgg3 Y ?_
 refine Zi 7 2 rfl (p_gtr Y Y) <| Zi 15 3 rfl (p_move Y) ?_
 refine lin_split (t := 14) Y (fun h1 => ?_) (fun h1 => ?_)
 ·
  first | rw [decide_eq_true h1] | rw [h1] | skip
  refine Yk 31 4 rfl <| Yk 63 5 rfl <| Yk 127 6 rfl <| Yk 255 7 rfl <| Yk 511 8 rfl <| Yk 1023 9 rfl <| Yk 2047 10 rfl <| Yk 4095 11 rfl <| Yk 8191 12 rfl <| Yk 16383 13 rfl <| Yk 32767 14 rfl <| Yk 65535 15 rfl <| Yk 131071 16 rfl <| Zi 262143 17 rfl (p_pick_t Y Y) <| Zi 524287 18 rfl (p_assign Y) <| lin_nil ?_
  refine Zn [4] ?_
  refine Zx <| at_ret ?_
  refine nx_end1 rfl results145 Y (by exact ⟨by first | simp [behQ, *] | (unfold behQ; simp [*]), rfl⟩)
 first | rw [decide_eq_false h1] | rw [h1] | skip
 refine lin_wg (D' := 31) 4 Y rfl rfl rfl (p_move Y) ?_
 refine lin_rg (D' := 63) 5 Y rfl rfl rfl Wh (p_load isAgg3 Y (by rfl)) ?_
 refine lin_wg (D' := 127) 6 Y rfl rfl rfl (p_eql Y Y) ?_
 refine lin_wg (D' := 255) 7 Y rfl rfl rfl (p_move Y) ?_
 refine lin_split (t := 18) Y (fun h2 => ?_) (fun h2 => ?_)
 ·
  first | rw [decide_eq_true h2] | rw [h2] | skip
  refine lin_wg (D' := 511) 8 Y rfl rfl rfl (p_fieldAddr0 (off := 1) underlying67 rfl rfl sizeOf3 Y) ?_
  refine lin_rg (D' := 1023) 9 Y rfl rfl rfl Wh (p_load isAgg3 Y (by rfl)) ?_
  refine lin_wg (D' := 2047) 10 Y rfl rfl rfl (p_fieldAddr0 (off := 18) underlying114 rfl rfl sizeOf112 Y) ?_
  refine lin_rg (D' := 4095) 11 Y rfl rfl rfl Wh (p_load isAgg112 Y (by rfl)) ?_
  refine lin_wg (D' := 8191) 12 Y rfl rfl rfl (p_nilChk Y rfl) ?_
  refine lin_wg (D' := 16383) 13 Y rfl rfl rfl (p_fieldAddr0 (off := 1) underlying67 rfl rfl sizeOf3 Y) ?_
  refine lin_rg (D' := 32767) 14 Y rfl rfl rfl Wh (p_load isAgg3 Y (by rfl)) ?_
  refine lin_wg (D' := 65535) 15 Y rfl rfl rfl (p_gtr Y Y) ?_
  refine lin_wg (D' := 131071) 16 Y rfl rfl rfl (p_pick_t Y Y) ?_
  refine Zi 262143 17 rfl (p_pick_f Y Y) <| Zi 524287 18 rfl (p_assign Y) <| lin_nil ?_
  refine Zn [4] ?_
  refine Zx <| at_ret ?_
  refine nx_end1 rfl results145 Y (by exact ⟨by first | simp [behQ, *] | (unfold behQ; simp [*]), rfl⟩)
 first | rw [decide_eq_false h2] | rw [h2] | skip
 refine Yk 511 8 rfl <| Yk 1023 9 rfl <| Yk 2047 10 rfl <| Yk 4095 11 rfl <| Yk 8191 12 rfl <| Yk 16383 13 rfl <| Yk 32767 14 rfl <| Yk 65535 15 rfl <| lin_wg (D' := 131071) 16 Y rfl rfl rfl (p_pick_f Y Y) ?_
 refine Zi 262143 17 rfl (p_pick_f Y Y) <| Zi 524287 18 rfl (p_assign Y) <| lin_nil ?_
 refine Zn [4] ?_
 refine Zx <| at_ret ?_
 refine nx_end1 rfl results145 Y (by exact ⟨by first | simp [behQ, *] | (unfold behQ; simp [*]), rfl⟩)

theorem behind_spec (q : QM) (hcl : 0 ≤ q.cl ∧ q.cl ≤ 3) (c : Chg) (p1 : Option Addr) (o n : Int) (y : RowM) (b2 : Nat) : Does Tryz.prog 116 #[.agg #[.int .i64 q.kd, .int .i64 q.tb, .int .i64 q.cl, .int .i64 q.lo, .int .i64 q.hi, .int .i64 q.bq, .int .i64 q.ot, .int .i64 c.t, .int .i64 c.k, .bool c.had, .int .i64 c.o.a, .int .i64 c.o.b, .int .i64 c.o.c, .bool c.has, .int .i64 c.n.a, .int .i64 c.n.b, .int .i64 c.n.c, .pointer p1, .pointer (some ⟨b2, 0, none⟩), .int .i64 o, .int .i64 n]] [[(b2, .cells #[.int .i64 y.t, .int .i64 y.k, .int .i64 y.v.a, .int .i64 y.v.b, .int .i64 y.v.c] 67 (0, 0))]] (fun r H' => ∃ be bv, r = .func (.func 145) #[] ([.pointer (some ⟨be, 0, none⟩), .pointer (some ⟨bv, 0, none⟩)] : List Value).toArray ∧ H' = [[(be, .cells #[.int .i64 q.kd, .int .i64 q.tb, .int .i64 q.cl, .int .i64 q.lo, .int .i64 q.hi, .int .i64 q.bq, .int .i64 q.ot, .int .i64 c.t, .int .i64 c.k, .bool c.had, .int .i64 c.o.a, .int .i64 c.o.b, .int .i64 c.o.c, .bool c.has, .int .i64 c.n.a, .int .i64 c.n.b, .int .i64 c.n.c, .pointer p1, .pointer (some ⟨b2, 0, none⟩), .int .i64 o, .int .i64 n] 114 (0, 0))] ++ [(bv, .cells #[.int .i64 (valL y q.cl)] 3 (0, 0))] ++ [(b2, .cells #[.int .i64 y.t, .int .i64 y.k, .int .i64 y.v.a, .int .i64 y.v.b, .int .i64 y.v.c] 67 (0, 0))]]) := by
  refine does_re (behind_spec0 q hcl c p1 o n y b2) rfl ?_
  rintro r H' ⟨be, bv, rfl, rfl⟩
  exact ⟨_, ⟨be, bv, rfl, rfl⟩, by simp⟩
theorem behind_f (q : QM) (hcl : 0 ≤ q.cl ∧ q.cl ≤ 3) (c : Chg) (p1 : Option Addr) (o n : Int) (y : RowM) (b2 be bv : Nat) (x : RowM) : DoesR Tryz.prog 145 (.agg #[.int .i64 x.t, .int .i64 x.k, .int .i64 x.v.a, .int .i64 x.v.b, .int .i64 x.v.c] :: ([.pointer (some ⟨be, 0, none⟩), .pointer (some ⟨bv, 0, none⟩)] : List Value)).toArray [[(be, .cells #[.int .i64 q.kd, .int .i64 q.tb, .int .i64 q.cl, .int .i64 q.lo, .int .i64 q.hi, .int .i64 q.bq, .int .i64 q.ot, .int .i64 c.t, .int .i64 c.k, .bool c.had, .int .i64 c.o.a, .int .i64 c.o.b, .int .i64 c.o.c, .bool c.has, .int .i64 c.n.a, .int .i64 c.n.b, .int .i64 c.n.c, .pointer p1, .pointer (some ⟨b2, 0, none⟩), .int .i64 o, .int .i64 n] 114 (0, 0))] ++ [(bv, .cells #[.int .i64 (valL y q.cl)] 3 (0, 0))] ++ [(b2, .cells #[.int .i64 y.t, .int .i64 y.k, .int .i64 y.v.a, .int .i64 y.v.b, .int .i64 y.v.c] 67 (0, 0))]] (.bool (behQ q y x)) := by
  refine does_re (behind_f0 q hcl c p1 o n y b2 be bv x) rfl ?_
  rintro r H' ⟨rfl, rfl⟩
  exact ⟨_, ⟨rfl, rfl⟩, by simp⟩

set_option maxHeartbeats 1000000 in
theorem prows_spec (q : QM) (c : Chg) (p1 p2 : Option Addr) (o n : Int) (hcl : 0 ≤ q.cl ∧ q.cl ≤ 3) {r : ResM} {rv : Value} {sr : List Chunk} (hr : RowS 5 67 rv r.rows.length (rowCells r.rows) sr) (hn : r.rows.length ≤ 100000000) {s2 : List Chunk} (h2 : PtrRow p2 (afQ q c) s2) : Does Tryz.prog 78 #[.agg #[.int .i64 q.kd, .int .i64 q.tb, .int .i64 q.cl, .int .i64 q.lo, .int .i64 q.hi, .int .i64 q.bq, .int .i64 q.ot, .int .i64 c.t, .int .i64 c.k, .bool c.had, .int .i64 c.o.a, .int .i64 c.o.b, .int .i64 c.o.c, .bool c.has, .int .i64 c.n.a, .int .i64 c.n.b, .int .i64 c.n.c, .pointer p1, .pointer p2, .int .i64 o, .int .i64 n], .agg #[rv, .int .i64 r.val, .bool r.fnd]] [sr, s2] (fun w H' => ∃ rv' s', w = .tuple #[.agg #[rv', .int .i64 r.val, .bool r.fnd], .bool true] ∧ RowS 5 67 rv' (patchRowsT q c r.rows).length (rowCells (patchRowsT q c r.rows)) s' ∧ H' = [s']) := by
 have hml : maxLen = 9223372036854775807 := rfl
 obtain ⟨pv, cv, rfl⟩ := hr.form
 have hU := rowsU_row hr (by omega)
 have hfl : (r.rows.filter fun x => !keyC c x).length ≤ r.rows.length := List.length_filter_le _ _
 refine spec_enter func78 rfl ntmps78 rfl ?_
 intro u R
 refine Zb [0, 1] ?_
 refine Zq <| Zg <| Ze (w_box Y (cs := #[.int .i64 q.kd, .int .i64 q.tb, .int .i64 q.cl, .int .i64 q.lo, .int .i64 q.hi, .int .i64 q.bq, .int .i64 q.ot, .int .i64 c.t, .int .i64 c.k, .bool c.had, .int .i64 c.o.a, .int .i64 c.o.b, .int .i64 c.o.c, .bool c.has, .int .i64 c.n.a, .int .i64 c.n.b, .int .i64 c.n.c, .pointer p1, .pointer p2, .int .i64 o, .int .i64 n]) (cells_e q c p1 p2 o n)) ?_
 rintro _ _ ⟨be, rfl, rfl⟩
 refine Ze (w_box Y (cs := #[.slice pv r.rows.length cv, .int .i64 r.val, .bool r.fnd]) (by simp [Value.cells])) ?_
 rintro _ _ ⟨br, rfl, rfl⟩
 refine Ze (w_alloc zeroValue40 (cs := #[_, _, _]) rfl) ?_
 rintro _ _ ⟨b3, rfl, rfl⟩
 refine Za Y <| Z0 <| Zx <| Zq <| Zg <| Zh 0 underlying40 rfl rfl sizeOf38 Y <| Zl isAgg38 Y ?_
 refine Zv (p_makeFunc (vs := []) (us := [_]) Y Y) ?_
 refine Zc [_, _] Y call113 Y rfl (without_rows (B := [(be, .cells #[.int .i64 q.kd, .int .i64 q.tb, .int .i64 q.cl, .int .i64 q.lo, .int .i64 q.hi, .int .i64 q.bq, .int .i64 q.ot, .int .i64 c.t, .int .i64 c.k, .bool c.had, .int .i64 c.o.a, .int .i64 c.o.b, .int .i64 c.o.c, .bool c.has, .int .i64 c.n.a, .int .i64 c.n.b, .int .i64 c.n.c, .pointer p1, .pointer p2, .int .i64 o, .int .i64 n] 114 (0, 0))]) hU (by omega) 114 [.pointer (some ⟨be, 0, none⟩)] (keyC c) call114 (fun x => pkey_spec q c p1 p2 o n x be)) ?_
 rintro _ _ ⟨_, ⟨s3, h3, rfl⟩, rfl⟩
 obtain ⟨g3, c3, rfl⟩ := h3.form
 refine Zh 0 underlying40 rfl rfl sizeOf38 Y <| Xe (Zs sizeOf38 Y Y rfl (hi := by first | omega | decide | (simp; done))) ?_
 refine Z0 <| Zx <| Zb [2, 3, 4] ?_
 refine at_cutB (e0 := [(2, _)]) (H0 := [[(br, .cells #[.slice g3 (r.rows.filter fun x => !keyC c x).length c3, .int .i64 r.val, .bool r.fnd] 40 (0, 0))], s3, s2]) (fun e H => ∃ (w : Value) (s4 : List Chunk), (RowS 5 67 w (patchRowsT q c r.rows).length (rowCells (patchRowsT q c r.rows)) s4) ∧ e = [] ∧ H = [[(br, .cells #[w, .int .i64 r.val, .bool r.fnd] 40 (0, 0))], s4]) Wp ?hx_1 ?hy_1
 case hx_1 =>
  refine Zq <| Zg <| Zh 18 underlying114 rfl rfl sizeOf112 Y <| Zl isAgg112 Y ?_
  refine Zv (p_neq_ptrO underlying112 Y Y) <| Z0 <| Zx ?_
  refine at_if_bool Y (fun hp => ?_) (fun hp => ?_)
  ·
   obtain ⟨y, hy⟩ : ∃ y, afQ q c = some y := Option.isSome_iff_exists.1 (by rw [← h2.some_]; exact hp)
   rw [hy] at h2
   obtain ⟨b2, rfl, rfl⟩ := h2
   refine at_draw (n := 11) (0 :: 1 :: 0 :: 4 :: 12 :: 28 :: 0 :: 64 :: 255 :: 511 :: 1023 :: []) 1408 (by kernel_rfl) (by kernel_rfl) rfl ?_
   refine Zi 1 0 rfl (p_fieldAddr0 (off := 0) underlying40 rfl rfl sizeOf38 Y) <| Zj 3 1 rfl isAgg38 Y ?_
   refine Zi 7 2 rfl (p_fieldAddr0 (off := 18) underlying114 rfl rfl sizeOf112 Y) <| Zj 15 3 rfl isAgg112 Y ?_
   refine Zi 31 4 rfl (p_nilChk Y rfl) <| lin_rm (b := b2) (x := .cells #[.int .i64 y.t, .int .i64 y.k, .int .i64 y.v.a, .int .i64 y.v.b, .int .i64 y.v.c] 67 (0, 0)) (D' := 63) 5 rfl rfl rfl (by simp) (p_load_agg (cs := #[.int .i64 y.t, .int .i64 y.k, .int .i64 y.v.a, .int .i64 y.v.b, .int .i64 y.v.c]) isAgg67 sizeOf67 Y (by first | decide | exact Nat.le_refl _ | (simp; done)) (by rfl)) ?_
   refine lin_r (D' := 127) 6 rfl rfl rfl Wh (p_load_agg isAgg114 sizeOf114 Y Wb (by exact ext_whole rfl)) ?_
   refine Zz (l := [7]) ?_
   refine Zy 64 255 [6, 5, 3, 1] [false, true, true, true] [(5, (_, _)), (3, (_, _)), (1, (_, _))] rfl Y rfl rfl rfl rfl (Zw [_] Y call116 Y rfl (behind_spec q hcl c p1 o n y b2)) ?hk_2 no_pan ?hl_2
   case hk_2 =>
    rintro _ _ ⟨_, ⟨b8, b9, rfl, rfl⟩, rfl⟩
    refine ⟨keep_consm (by simp [*]) (Zk (Zk (keep_nil))), ?_⟩
    refine Zz (l := [8]) ?_
    refine Zy 255 511 [5, 3, 1] [false, false, false] [] rfl Y rfl rfl rfl rfl (Zw [_, _, _] Y call115 Y rfl (inserted_rows h3 (by omega) y 145 [.pointer (some ⟨b8, 0, none⟩), .pointer (some ⟨b9, 0, none⟩)] (behQ q y) call145 (fun x => behind_f q hcl c p1 o n y b2 b8 b9 x))) ?hk_3 no_pan ?hl_3
    case hk_3 =>
     rintro _ _ ⟨_, ⟨s5, s6, h5, rfl⟩, rfl⟩
     refine ⟨keep_nil, ?_⟩
     obtain ⟨g5, c5, rfl⟩ := h5.form
     refine Zi 1023 9 rfl (p_fieldAddr0 (off := 0) underlying40 rfl rfl sizeOf38 Y) <| Zz (l := [10]) ?_
     refine Zy 1023 2047 [] [] [] rfl Y rfl rfl rfl rfl (Zs sizeOf38 Y Y rfl (hi := by first | omega | decide | (simp; done))) ?hk_4 (fun _ _ h => h.elim) ?hl_4
     case hk_4 =>
      rintro _ _ ⟨rfl, rfl⟩
      refine ⟨keep_nil, ?_⟩
      refine lin_nil ?_
      refine Zn [3, 4] ?_
      refine nx_cutB (e' := []) (H' := _) (by exact ⟨_, s5, by unfold patchRowsT; rw [hy]; exact h5, rfl, rfl⟩)
     exact each_nil
    exact each_nil
   exact each_nil
  have hy : afQ q c = none := by have h9 := h2.some_; rw [hp] at h9; exact Option.not_isSome_iff_eq_none.1 (by rw [← h9]; decide)
  refine at_skip <| Zn [3, 4] ?_
  refine nx_cutB (e' := []) (H' := _) (by exact ⟨_, s3, by unfold patchRowsT; rw [hy]; exact h3, rfl, rfl⟩)
 rintro _ _ ⟨w, s4, h4, rfl, rfl⟩
 obtain ⟨p4, c4, rfl⟩ := h4.form
 refine Zq <| Zg <| Zo Wh (p_load_agg (cs := #[_, _, _]) isAgg40 sizeOf40 Y Wb (by exact ext_whole rfl)) ?_
 refine Xe (w_store_agg sizeOf40 Y Y (by (simp [Value.oneCell']; done)) Wu (by exact over_arr rfl) (by first | rfl | (simp; done)) Wb (by exact free_zero _)) ?_
 refine Za Y <| Z0 <| Zx <| at_ret ?_
 refine nx_endct rfl results78 Y Wh (loadVar_agg isAgg40 sizeOf40 Wn (rfl)) Y (by exact ⟨_, s4, rfl, h4, rfl⟩)

theorem pcount_spec (q : QM) (c : Chg) (p1 p2 : Option Addr) (o n : Int) {r : ResM} (pv : Option Addr) (kv cv : Nat) (hv : -4000000000000000000 ≤ r.val ∧ r.val ≤ 4000000000000000000) : DoesR Tryz.prog 80 #[.agg #[.int .i64 q.kd, .int .i64 q.tb, .int .i64 q.cl, .int .i64 q.lo, .int .i64 q.hi, .int .i64 q.bq, .int .i64 q.ot, .int .i64 c.t, .int .i64 c.k, .bool c.had, .int .i64 c.o.a, .int .i64 c.o.b, .int .i64 c.o.c, .bool c.has, .int .i64 c.n.a, .int .i64 c.n.b, .int .i64 c.n.c, .pointer p1, .pointer p2, .int .i64 o, .int .i64 n], .agg #[.slice pv kv cv, .int .i64 r.val, .bool r.fnd]] [] (.tuple #[.agg #[.slice pv kv cv, .int .i64 (if p2.isSome then r.val + 1 else r.val - 1), .bool r.fnd], .bool true]) := by
 refine spec_enter func80 rfl ntmps80 rfl ?_
 intro u R
 refine Zb [0, 1] ?_
 refine Zq <| Zg <| Ze (w_box Y (cs := #[.int .i64 q.kd, .int .i64 q.tb, .int .i64 q.cl, .int .i64 q.lo, .int .i64 q.hi, .int .i64 q.bq, .int .i64 q.ot, .int .i64 c.t, .int .i64 c.k, .bool c.had, .int .i64 c.o.a, .int .i64 c.o.b, .int .i64 c.o.c, .bool c.has, .int .i64 c.n.a, .int .i64 c.n.b, .int .i64 c.n.c, .pointer p1, .pointer p2, .int .i64 o, .int .i64 n]) (cells_e q c p1 p2 o n)) ?_
 rintro _ _ ⟨be, rfl, rfl⟩
 refine Ze (w_box Y (cs := #[.slice pv kv cv, .int .i64 r.val, .bool r.fnd]) (by simp [Value.cells])) ?_
 rintro _ _ ⟨br, rfl, rfl⟩
 refine Ze (w_alloc zeroValue40 (cs := #[_, _, _]) rfl) ?_
 rintro _ _ ⟨b3, rfl, rfl⟩
 refine Za Y <| Z0 <| Zx <| Zq <| Zq <| Zg <| Zh 18 underlying114 rfl rfl sizeOf112 Y <| Zl isAgg112 Y ?_
 refine Zv (p_neq_ptrO underlying112 Y Y) <| Z0 <| Zx ?_
 refine at_if_bool Y (fun hp => ?_) (fun hp => ?_)
 ·
  refine Zg <| Zh 1 underlying40 rfl rfl sizeOf3 Y <| Zl isAgg3 Y ?_
  refine Yi Y Y <| Zh 1 underlying40 rfl rfl sizeOf3 Y <| Xe (Zs sizeOf3 Y Y rfl (hi := by first | omega | decide | (simp; done))) ?_
  refine Z0 <| Zx <| Zq <| Zg <| Zo Wh (p_load_agg (cs := #[_, _, _]) isAgg40 sizeOf40 Y Wb (by rfl)) ?_
  refine Xe (w_store_agg sizeOf40 Y Y (by (simp [Value.oneCell']; done)) Wu (by rfl) (by first | rfl | (simp; done)) Wb (by exact free_zero _)) ?_
  refine Za Y <| Z0 <| Zn [4, 5] ?_
  refine Zx <| at_ret ?_
  refine nx_endct rfl results80 Y Wh (loadVar_agg isAgg40 sizeOf40 Wn (rfl)) Y (by exact ⟨by rw [hp]; rfl, rfl⟩)
 refine Zg <| Zh 1 underlying40 rfl rfl sizeOf3 Y <| Zl isAgg3 Y ?_
 (refine op_v (p_sub Y Y (IntWalk.i64_in _ ?_)) ?_; (focus (omega)))
 refine Zh 1 underlying40 rfl rfl sizeOf3 Y <| Xe (Zs sizeOf3 Y Y rfl (hi := by first | omega | decide | (simp; done))) ?_
 refine Z0 <| Zx <| Zq <| Zg <| Zo Wh (p_load_agg (cs := #[_, _, _]) isAgg40 sizeOf40 Y Wb (by rfl)) ?_
 refine Xe (w_store_agg sizeOf40 Y Y (by (simp [Value.oneCell']; done)) Wu (by rfl) (by first | rfl | (simp; done)) Wb (by exact free_zero _)) ?_
 refine Za Y <| Z0 <| Zn [4, 5] ?_
 refine Zx <| at_ret ?_
 refine nx_endct rfl results80 Y Wh (loadVar_agg isAgg40 sizeOf40 Wn (rfl)) Y (by exact ⟨by rw [hp]; rfl, rfl⟩)

theorem psum_spec (q : QM) (c : Chg) (p1 p2 : Option Addr) (o n : Int) {r : ResM} (pv : Option Addr) (kv cv : Nat) (hv : -4000000000000000000 ≤ r.val ∧ r.val ≤ 4000000000000000000) (hm : (-1000000000 ≤ o ∧ o ≤ 1000000000) ∧ -1000000000 ≤ n ∧ n ≤ 1000000000) : DoesR Tryz.prog 82 #[.agg #[.int .i64 q.kd, .int .i64 q.tb, .int .i64 q.cl, .int .i64 q.lo, .int .i64 q.hi, .int .i64 q.bq, .int .i64 q.ot, .int .i64 c.t, .int .i64 c.k, .bool c.had, .int .i64 c.o.a, .int .i64 c.o.b, .int .i64 c.o.c, .bool c.has, .int .i64 c.n.a, .int .i64 c.n.b, .int .i64 c.n.c, .pointer p1, .pointer p2, .int .i64 o, .int .i64 n], .agg #[.slice pv kv cv, .int .i64 r.val, .bool r.fnd]] [] (.tuple #[.agg #[.slice pv kv cv, .int .i64 (r.val + (n - o)), .bool r.fnd], .bool true]) := by
 refine spec_enter func82 rfl ntmps82 rfl ?_
 intro u R
 refine Zb [0, 1] ?_
 refine Zq <| Zg <| Ze (w_box Y (cs := #[.int .i64 q.kd, .int .i64 q.tb, .int .i64 q.cl, .int .i64 q.lo, .int .i64 q.hi, .int .i64 q.bq, .int .i64 q.ot, .int .i64 c.t, .int .i64 c.k, .bool c.had, .int .i64 c.o.a, .int .i64 c.o.b, .int .i64 c.o.c, .bool c.has, .int .i64 c.n.a, .int .i64 c.n.b, .int .i64 c.n.c, .pointer p1, .pointer p2, .int .i64 o, .int .i64 n]) (cells_e q c p1 p2 o n)) ?_
 rintro _ _ ⟨be, rfl, rfl⟩
 refine Ze (w_box Y (cs := #[.slice pv kv cv, .int .i64 r.val, .bool r.fnd]) (by simp [Value.cells])) ?_
 rintro _ _ ⟨br, rfl, rfl⟩
 refine Ze (w_alloc zeroValue40 (cs := #[_, _, _]) rfl) ?_
 rintro _ _ ⟨b3, rfl, rfl⟩
 refine Za Y <| Z0 <| Zx <| Zq <| Zg <| Zh 1 underlying40 rfl rfl sizeOf3 Y <| Zl isAgg3 Y ?_
 refine Zh 20 underlying114 rfl rfl sizeOf3 Y <| Zl isAgg3 Y ?_
 refine Zh 19 underlying114 rfl rfl sizeOf3 Y <| Zl isAgg3 Y ?_
 (refine op_v (p_sub Y Y (IntWalk.i64_in _ ?_)) ?_; (focus (omega)))
 refine Yi Y Y <| Zh 1 underlying40 rfl rfl sizeOf3 Y <| Xe (Zs sizeOf3 Y Y rfl (hi := by first | omega | decide | (simp; done))) ?_
 refine Z0 <| Zn [3, 4] ?_
 refine Zx <| Zq <| Zg <| Zo Wh (p_load_agg (cs := #[_, _, _]) isAgg40 sizeOf40 Y Wb (by rfl)) ?_
 refine Xe (w_store_agg sizeOf40 Y Y (by (simp [Value.oneCell']; done)) Wu (by rfl) (by first | rfl | (simp; done)) Wb (by exact free_zero _)) ?_
 refine Za Y <| Z0 <| Zx <| at_ret ?_
 refine nx_endct rfl results82 Y Wh (loadVar_agg isAgg40 sizeOf40 Wn (rfl)) Y (by exact ⟨rfl, rfl⟩)

end Go.Proofs.YtkgmgmkbgnkdnaaGreatDoor
