/- Damaged proofs: the walk. -/
import Derived.Test.YtjeepldonhgohaaGreatDoorEz
import Derived.Test.YtjeepldonhgohaaGreatDoorTr22
import Derived.Test.YtjeepldonhgohaaGreatDoorEx25

namespace Go.Proofs.YtjeepldonhgohaaGreatDoor
open Go.Proofs.Tryz
open Go Go.RowKit Gw
set_option linter.unusedVariables false
set_option linter.unusedSimpArgs false
set_option maxRecDepth 100000
attribute [local irreducible] Gw.At Gw.Nx Gw.Ops
theorem split_row {rs : List RowM} {k : Nat} {r : RowM} (h : rs[k]? = some r) : rowCells rs = rowCells (rs.take k) ++ (rowCells [r] ++ rowCells (rs.drop (k + 1))) := by
  rw [← rowCells_app, ← rowCells_app]
  congr 1
  obtain ⟨hk, rfl⟩ := List.getElem?_eq_some_iff.1 h
  rw [List.singleton_append, ← List.drop_eq_getElem_cons hk, List.take_append_drop]
theorem rowCells_at {rs : List RowM} {k : Nat} {r : RowM} (h : rs[k]? = some r) (j : Nat) (hj : j < 5) : (rowCells rs)[k * 5 + j]? = (rowCells [r])[j]? := by
  have hk := (List.getElem?_eq_some_iff.1 h).1
  have e : (rowCells (rs.take k)).length = k * 5 := by rw [rowCells_len, List.length_take]; omega
  rw [split_row h, List.getElem?_append_right (by omega), List.getElem?_append_left (by rw [e, rowCells_len]; simp; omega), e, Nat.add_sub_cancel_left]
theorem rowCells_over {rs : List RowM} {k : Nat} (hk : k < rs.length) (r' : RowM) : (rowCells rs).take (k * 5) ++ rowCells [r'] ++ (rowCells rs).drop (k * 5 + (rowCells [r']).length) = rowCells (rs.set k r') := by
  rw [rowCells_len, show k * 5 + [r'].length * 5 = (k + 1) * 5 by simp; omega, rowCells_take, rowCells_drop, ← rowCells_app, ← rowCells_app, List.set_eq_take_append_cons_drop, if_pos hk, List.append_assoc]
  rfl
theorem rowCells_set {rs : List RowM} {k j : Nat} {r r' : RowM} {v : Value} (h : rs[k]? = some r) (hj : j < 5) (hv : (rowCells [r]).set j v = rowCells [r']) : (rowCells rs).set (k * 5 + j) v = rowCells (rs.set k r') := by
  have hk := (List.getElem?_eq_some_iff.1 h).1
  have e : (rowCells (rs.take k)).length = k * 5 := by rw [rowCells_len, List.length_take]; omega
  rw [← rowCells_over hk, split_row h, List.set_append_right (h := by omega), e, Nat.add_sub_cancel_left, List.set_append_left (h := by rw [rowCells_len]; simp; omega), hv, List.take_left' e, List.append_assoc]
  congr 2
  rw [← List.append_assoc, List.drop_left' (by rw [List.length_append, e, rowCells_len, rowCells_len]; rfl)]
theorem rowCells_erase (rs : List RowM) (k : Nat) : (rowCells rs).take (k * 5) ++ (rowCells rs).drop ((k + 1) * 5) = rowCells (rs.eraseIdx k) := by
  rw [rowCells_take, rowCells_drop, ← rowCells_app, List.eraseIdx_eq_take_drop_succ]
theorem rowS_over {sz : Nat} {e : TypeId} {g k cap : Nat} {cur : Array Value} {z : Nat × Nat} {xs : List Value} (h : RowS sz e (.slice (some ⟨g, 0, none⟩) k cap) k xs [(g, .cells cur e z)]) (i : Nat) (ys : List Value) (hy : i + ys.length ≤ k * sz) : RowS sz e (.slice (some ⟨g, 0, none⟩) k cap) k (xs.take i ++ ys ++ xs.drop (i + ys.length)) [(g, .cells (over cur i ys) e z)] := by
  obtain ⟨hl, ⟨h0, _⟩ | ⟨g', cap', cur', z', hv, hs, hle, hcm, hcs, htk, hfr⟩⟩ := h
  · cases h0
  · injection hv with hv1 _ hv3
    injection hv1 with hv1
    injection hv1 with hv1
    subst hv3
    simp only [List.cons.injEq, Prod.mk.injEq, Obj.cells.injEq, and_true, true_and] at hs
    obtain ⟨hs1, hs2, hs3⟩ := hs
    subst hs1 hs2 hs3
    have h4 : k * sz ≤ cap * sz := Nat.mul_le_mul_right sz hle
    have hov : (over cur i ys).size = cap * sz := by
      unfold over; simp only [List.size_toArray, List.length_append, List.length_take, List.length_drop, Array.length_toList, hcs]; omega
    have hal : (xs.take i ++ ys ++ xs.drop (i + ys.length)).length = k * sz := by simp only [List.length_append, List.length_take, List.length_drop, hl]; omega
    refine ⟨hal, .inr ⟨g, cap, _, z, rfl, rfl, hle, hcm, hov, ?_, by rw [hov, ← hcs]; exact hfr⟩⟩
    obtain ⟨Y9, e9⟩ : ∃ Y9, cur.toList = xs ++ Y9 := ⟨cur.toList.drop (k * sz), by conv => lhs; rw [← List.take_append_drop (k * sz) cur.toList, htk]⟩
    have t1 : (xs ++ Y9).take i = xs.take i := List.take_append_of_le_length (by omega)
    have t2 : (xs ++ Y9).drop (i + ys.length) = xs.drop (i + ys.length) ++ Y9 := List.drop_append_of_le_length (by omega)
    unfold over
    show List.take (k * sz) (cur.toList.take i ++ ys ++ cur.toList.drop (i + ys.length)) = _
    rw [e9, t1, t2, ← List.append_assoc]
    exact List.take_left' hal
theorem rowS_open {sz : Nat} {e : TypeId} {v : Value} {k : Nat} {xs : List Value} {s : List Chunk} (h : RowS sz e v k xs s) (hk : 0 < k) : ∃ g cap cur z, v = .slice (some ⟨g, 0, none⟩) k cap ∧ s = [(g, .cells cur e z)] ∧ k ≤ cap ∧ cur.size = cap * sz ∧ (∀ (i : Nat) (u : Value), xs[i]? = some u → cur[i]? = some u) ∧ Free z cur.size := by
  obtain ⟨hl, ⟨_, h0, _⟩ | ⟨g, cap, cur, z, rfl, rfl, hle, hcm, hcs, htk, hfr⟩⟩ := h
  · omega
  · refine ⟨g, cap, cur, z, rfl, rfl, hle, hcs, fun i u hu => ?_, hfr⟩
    have hin : CellsIn cur 0 xs := by unfold CellsIn; rw [List.drop_zero, hl]; exact htk
    have := hin.get i u hu
    rwa [Nat.zero_add] at this
theorem rowsU_cells {M : List Chunk} {p : Option Addr} {n cap : Nat} {rs : List RowM} (h : RowsU M (.slice p n cap) rs) : CellsM M p (rowCells rs) := by
  obtain ⟨p', cap', e, hl, hg⟩ := h
  injection e with e1 e2 e3
  subst e1
  intro j u hj
  have hjl := (List.getElem?_eq_some_iff.1 hj).1
  rw [rowCells_len] at hjl
  obtain ⟨x, hx⟩ : ∃ x, rs[j / 5]? = some x := ⟨_, List.getElem?_eq_getElem (by omega)⟩
  obtain ⟨g, off, cur, T, zz, rfl, hm, hsz, hex⟩ := hg (j / 5) x hx
  refine ⟨g, off, cur, T, zz, rfl, hm, ?_⟩
  have h1 := ext_cell hex hsz (j % 5) (by omega)
  have h2 := rowCells_at hx (j % 5) (by omega)
  rw [show j / 5 * 5 + j % 5 = j by omega, hj] at h2
  rw [show off + j = off + j / 5 * 5 + j % 5 by omega, h1, h2, ← Array.getElem?_toList]
  rfl
theorem strsU_cells {M : List Chunk} {p : Option Addr} {n cap : Nat} {ls : List Bs} (h : StrsU M (.slice p n cap) ls) : CellsM M p (ls.map strV) := by
  obtain ⟨p', cap', e, hl, hg⟩ := h
  injection e with e1 e2 e3
  subst e1
  intro j u hj
  rw [List.getElem?_map] at hj
  obtain ⟨s, hs, rfl⟩ := Option.map_eq_some_iff.1 hj
  obtain ⟨g, off, cur, T, zz, rfl, hm, hex⟩ := hg j s hs
  exact ⟨g, off, cur, T, zz, rfl, hm, hex⟩
theorem list_of {α : Type} (P : Nat → α → Prop) : ∀ (n : Nat), (∀ i, i < n → ∃ v, P i v) → ∃ l : List α, l.length = n ∧ ∀ i v, l[i]? = some v → P i v
  | 0, _ => ⟨[], rfl, fun i v h => by simp at h⟩
  | n + 1, h => by
    obtain ⟨l, h1, h2⟩ := list_of P n fun i hi => h i (by omega)
    obtain ⟨v, hv⟩ := h n (by omega)
    refine ⟨l ++ [v], by rw [List.length_append, h1]; rfl, fun i w hw => ?_⟩
    rcases Nat.lt_or_ge i l.length with h3 | h3
    · rw [List.getElem?_append_left h3] at hw; exact h2 i w hw
    · rw [List.getElem?_append_right h3] at hw
      have h4 : i - l.length = 0 := by
        have := (List.getElem?_eq_some_iff.1 hw).1
        simp at this; omega
      rw [h4] at hw
      injection hw with hw
      obtain rfl : i = n := by omega
      rw [← hw]; exact hv
theorem pathsU_cells {M : List Chunk} {p : Option Addr} {n cap : Nat} {ps : List (List Bs)} (h : PathsU M (.slice p n cap) ps) : ∃ pvs, CellsM M p pvs ∧ PathsS M pvs ps := by
  obtain ⟨p', cap', e, hl, hg⟩ := h
  injection e with e1 e2 e3
  subst e1
  obtain ⟨pvs, h1, h2⟩ := list_of (fun i v => ∃ l, ps[i]? = some l ∧ StrsU M v l ∧ ∃ g off cur T zz, p = some ⟨g, off, none⟩ ∧ (g, Obj.cells cur T zz) ∈ M ∧ cur[off + i]? = some v) ps.length (fun i hi => by
    obtain ⟨l, hl⟩ : ∃ l, ps[i]? = some l := ⟨_, List.getElem?_eq_getElem hi⟩
    obtain ⟨q, c, hu, g, off, cur, T, zz, hp, hm, hex⟩ := hg i l hl
    exact ⟨_, l, hl, hu, g, off, cur, T, zz, hp, hm, hex⟩)
  refine ⟨pvs, fun j u hj => ?_, h1, fun i v l hv hl => ?_⟩
  · obtain ⟨l, hl, hu, g, off, cur, T, zz, hp, hm, hex⟩ := h2 j u hj
    exact ⟨g, off, cur, T, zz, hp, hm, hex⟩
  · obtain ⟨l', hl', hu, _⟩ := h2 i v hv
    rw [hl] at hl'
    injection hl' with hl'
    rw [hl']; exact hu
theorem PathsS.mono {M M' : List Chunk} {pvs : List Value} {ps : List (List Bs)} (h : PathsS M pvs ps) (hm : ∀ c ∈ M, c ∈ M') : PathsS M' pvs ps := ⟨h.1, fun i v l hv hl => (h.2 i v l hv hl).mono hm⟩
theorem PathsS.set {M : List Chunk} {pvs : List Value} {ps : List (List Bs)} (h : PathsS M pvs ps) (k : Nat) {v : Value} {l : List Bs} (hv : StrsU M v l) : PathsS M (pvs.set k v) (ps.set k l) := by
  refine ⟨by rw [List.length_set, List.length_set, h.1], fun i w m hw hm => ?_⟩
  rw [List.getElem?_set] at hw hm
  split at hw
  · rename_i e
    rw [if_pos e] at hm
    split at hw
    · split at hm
      · injection hw with hw
        injection hm with hm
        rw [← hw, ← hm]; exact hv
      · cases hm
    · cases hw
  · rename_i e
    rw [if_neg e] at hm
    exact h.2 i w m hw hm
theorem PathsS.erase {M : List Chunk} {pvs : List Value} {ps : List (List Bs)} (h : PathsS M pvs ps) (k : Nat) : PathsS M (pvs.take (k * 1) ++ pvs.drop ((k + 1) * 1)) (ps.eraseIdx k) := by
  rw [Nat.mul_one, Nat.mul_one, ← List.eraseIdx_eq_take_drop_succ]
  refine ⟨by rw [List.length_eraseIdx, List.length_eraseIdx, h.1], fun i v l hv hl => ?_⟩
  rw [List.getElem?_eraseIdx] at hv hl
  split at hv
  · rename_i e
    rw [if_pos e] at hl
    exact h.2 i v l hv hl
  · rename_i e
    rw [if_neg e] at hl
    exact h.2 _ v l hv hl
theorem PathsS.one {M : List Chunk} {pvs : List Value} {ps : List (List Bs)} (h : PathsS M pvs ps) : ∀ u ∈ pvs, u.oneCell' = true := by
  intro u hu
  obtain ⟨i, hi⟩ := List.getElem?_of_mem hu
  have hlt := (List.getElem?_eq_some_iff.1 hi).1
  obtain ⟨p, cap, rfl, _⟩ := h.2 i u _ hi (List.getElem?_eq_getElem (by rw [← h.1]; exact hlt))
  rfl
theorem ext_row {cur : Array Value} {rs : List RowM} {k : Nat} {r : RowM} (hin : ∀ (i : Nat) (u : Value), (rowCells rs)[i]? = some u → cur[i]? = some u) (hr : rs[k]? = some r) (hsz : k * 5 + 5 ≤ cur.size) : cur.extract (0 + k * 5) (0 + k * 5 + 5) = (rowCells [r]).toArray := by
  apply Array.toList_inj.1
  apply List.ext_getElem?
  intro j
  rw [Array.getElem?_toList, Array.getElem?_extract]
  split
  · rename_i hj
    have hj5 : j < 5 := by omega
    have h1 := rowCells_at hr j hj5
    obtain ⟨u, hu⟩ : ∃ u, (rowCells [r])[j]? = some u := ⟨_, List.getElem?_eq_getElem (by rw [rowCells_len]; simpa using hj5)⟩
    rw [hu] at h1
    have h2 := hin _ _ h1
    rw [Nat.zero_add, h2]
    exact hu.symm
  · rw [List.getElem?_eq_none]
    show (rowCells [r]).length ≤ j
    rw [rowCells_len]
    simp only [List.length_singleton]
    omega
theorem swap_cells {rs : List RowM} {k : Nat} (h0 : 0 < rs.length) (hk : k < rs.length) (y x : RowM) : ((rowCells rs).take (0 + 0 * 5) ++ rowCells [y] ++ (rowCells rs).drop (0 + 0 * 5 + (rowCells [y]).length)).take (0 + k * 5) ++ rowCells [x] ++ ((rowCells rs).take (0 + 0 * 5) ++ rowCells [y] ++ (rowCells rs).drop (0 + 0 * 5 + (rowCells [y]).length)).drop (0 + k * 5 + (rowCells [x]).length) = rowCells ((rs.set 0 y).set k x) := by
  rw [show 0 + 0 * 5 = 0 * 5 from rfl, rowCells_over h0, show 0 + k * 5 = k * 5 by omega, rowCells_over (by rw [List.length_set]; exact hk)]
theorem over_size {c : Array Value} {i : Nat} {ys : List Value} (h : i + ys.length ≤ c.size) : (over c i ys).size = c.size := by
  unfold over; simp only [List.size_toArray, List.length_append, List.length_take, List.length_drop, Array.length_toList]; omega
theorem set_get {c : Array Value} {i : Nat} {v : Value} (h : i < c.size) : (c.setIfInBounds i v)[i]? = some v := by
  rw [Array.getElem?_setIfInBounds_self, if_pos h]
theorem strsU_set {e : TypeId} {g n cap : Nat} {cur : Array Value} {z : Nat × Nat} {ls : List Bs} (h : RowS 1 e (.slice (some ⟨g, 0, none⟩) n cap) n (ls.map strV) [(g, .cells cur e z)]) (hn : n ≤ maxLen) (hl : ls.length = n) (s : Bs) : StrsU [(g, .cells (cur.setIfInBounds 0 (strV s)) e z)] (.slice (some ⟨g, 0, none⟩) n cap) (ls.set 0 s) := by
  have h1 := rowS_set h 0 (strV s)
  rw [← List.map_set] at h1
  exact strsU_row (rowS_eq h1 (by rw [List.length_set]; exact hl.symm) rfl) (by rw [List.length_set, hl]; exact hn)
/-- Bounds for the numbers of a proof. -/
structure DamB (x : RP) (B : Int) : Prop where
  lo : -B ≤ x.lo ∧ x.lo ≤ B
  hi : -B ≤ x.hi ∧ x.hi ≤ B
  ct : -B ≤ x.ct ∧ x.ct ≤ B
  fi : -B ≤ x.fi ∧ x.fi ≤ B
  row : ∀ r ∈ x.rows, (-B ≤ r.v.a ∧ r.v.a ≤ B) ∧ (-B ≤ r.v.b ∧ r.v.b ≤ B) ∧ (-B ≤ r.v.c ∧ r.v.c ≤ B)
def valJ (r : RowM) (j : Nat) : Int := if j = 0 then r.v.a else if j = 1 then r.v.b else r.v.c
theorem bump_cells (r : RowM) {j : Nat} (hj : j < 3) : (rowCells [r]).set (2 + j) (.int .i64 (valJ r j + 1)) = rowCells [bumpV r j] := by
  match j, hj with
  | 0, _ => rfl
  | 1, _ => rfl
  | 2, _ => rfl
theorem valJ_cell (r : RowM) {j : Nat} (hj : j < 3) : (rowCells [r])[2 + j]? = some (.int .i64 (valJ r j)) := by
  match j, hj with
  | 0, _ => rfl
  | 1, _ => rfl
  | 2, _ => rfl
theorem rpin_of {M z1 z2 z3 z4 : List Chunk} {u : RP} {qa qb qc : Option Addr} {na nb nc ca cb cc : Nat} {pvs xs1 xs3 : List Value} {t1 t2 t3 : TypeId} (h1 : RowS 5 t1 (.slice qa na ca) na xs1 z1) (e1 : na = u.rows.length) (e2 : xs1 = rowCells u.rows) (h2 : RowS 1 t2 (.slice qb nb cb) nb pvs z2) (hP : PathsS (z4 ++ M) pvs u.paths) (h3 : RowS 1 t3 (.slice qc nc cc) nc xs3 z3) (e3 : nc = u.roots.length) (e4 : xs3 = u.roots.map strV) (m1 : na ≤ 1000000) (m2 : nb ≤ 1000000) (m3 : nc ≤ 1000000) :
    RPIn (z1 ++ (z2 ++ (z3 ++ (z4 ++ M)))) (.agg #[.int .i64 u.tb, .int .i64 u.cl, .int .i64 u.lo, .int .i64 u.hi, .int .i64 u.ct, .int .i64 u.fi, .slice qa na ca, .slice qb nb cb, .slice qc nc cc]) u := by
  have hml : maxLen = 9223372036854775807 := rfl
  have hpl : pvs.length = nb := by have := h2.1; omega
  have e5 : nb = u.paths.length := by rw [← hpl, hP.1]
  refine ⟨_, _, _, rfl, ?_, ?_, ?_⟩
  · subst e1 e2
    exact (rowsU_row h1 (by omega)).mono fun c h => List.mem_append_left _ h
  · subst e5
    have := pathsU_of h2 hP (by omega)
    refine this.mono fun c h => List.mem_append_right _ ?_
    rcases List.mem_append.1 h with h | h
    · exact List.mem_append_left _ h
    · exact List.mem_append_right _ (List.mem_append_right _ h)
  · subst e3 e4
    exact (strsU_row h3 (by omega)).mono fun c h => List.mem_append_right _ (List.mem_append_right _ (List.mem_append_left _ h))
theorem max_one (n : Nat) : max ((n : Nat) : Int) 1 = ((max n 1 : Nat) : Int) := by omega
section
variable {x : RP} {a b c : Int}
theorem dam_at0 (h : pickN a 12 = 0) : damT x a b c = { x with fi := x.fi + 1 } := by unfold damT; rw [h]; rfl
theorem dam_at1 (h : pickN a 12 = 1) : damT x a b c = { x with ct := x.ct - 1 } := by unfold damT; rw [h]; rfl
theorem dam_at2 (h : pickN a 12 = 2) : damT x a b c = { x with lo := x.lo - 1 - (pickN c 5 : Int) } := by unfold damT; rw [h]; rfl
theorem dam_at3 (h : pickN a 12 = 3) : damT x a b c = { x with hi := x.hi + 1 + (pickN c 5 : Int) } := by unfold damT; rw [h]; rfl
theorem dam_at4 (h : pickN a 12 = 4) {r : RowM} (hr : x.rows[pickN b (max x.rows.length 1)]? = some r) : damT x a b c = { x with rows := x.rows.set (pickN b (max x.rows.length 1)) (bumpV r (pickN c 3)) } := by
  unfold damT; rw [h]
  show ({ x with rows := match x.rows[pickN b (max x.rows.length 1)]? with
    | some r => x.rows.set (pickN b (max x.rows.length 1)) (bumpV r (pickN c 3))
    | none => x.rows } : RP) = _
  rw [hr]
theorem dam_no4 (h : pickN a 12 = 4) (h0 : x.rows.length = 0) : damT x a b c = x := by
  unfold damT; rw [h]
  show ({ x with rows := match x.rows[pickN b (max x.rows.length 1)]? with
    | some r => x.rows.set (pickN b (max x.rows.length 1)) (bumpV r (pickN c 3))
    | none => x.rows } : RP) = _
  rw [List.getElem?_eq_none (by omega)]
theorem dam_at5 (h : pickN a 12 = 5) : damT x a b c = { x with rows := x.rows.eraseIdx (pickN b (max x.rows.length 1)), paths := x.paths.eraseIdx (pickN b (max x.rows.length 1)) } := by unfold damT; rw [h]; rfl
theorem dam_no5 (h : pickN a 12 = 5) (h0 : x.rows.length = 0) (h1 : x.paths.length = x.rows.length) : damT x a b c = x := by
  rw [dam_at5 h, List.eraseIdx_of_length_le (by omega), List.eraseIdx_of_length_le (by omega)]
theorem swap_at {α : Type} {l : List α} {k : Nat} {y z : α} (h0 : l[0]? = some y) (hk : l[k]? = some z) : swapL l k = (l.set 0 z).set k y := by unfold swapL; rw [h0, hk]
theorem swap_no {α : Type} {l : List α} {k : Nat} (h : l.length ≤ 1) (hk : k < max l.length 1) : swapL l k = l := by
  obtain rfl : k = 0 := by omega
  unfold swapL
  match l, h with
  | [], _ => rfl
  | [x], _ => rfl
theorem dam_at6 (h : pickN a 12 = 6) : damT x a b c = { x with rows := swapL x.rows (pickN b (max x.rows.length 1)), paths := swapL x.paths (pickN b (max x.rows.length 1)) } := by unfold damT; rw [h]; rfl
theorem dam_no6 (h : pickN a 12 = 6) (h0 : x.rows.length ≤ 1) (h1 : x.paths.length = x.rows.length) : damT x a b c = x := by
  have hk := pickN_lt b (max x.rows.length 1) (by omega)
  rw [dam_at6 h, swap_no h0 hk, swap_no (by omega) (by rw [h1]; exact hk)]
theorem dam_at7 (h : pickN a 12 = 7) {l : List Bs} (hl : x.paths[pickN b (max x.rows.length 1)]? = some l) : damT x a b c = { x with paths := x.paths.set (pickN b (max x.rows.length 1)) (l.set 0 (sha [120])) } := by
  unfold damT; rw [h]
  show ({ x with paths := match x.paths[pickN b (max x.rows.length 1)]? with
    | some l => x.paths.set (pickN b (max x.rows.length 1)) (l.set 0 (sha [120]))
    | none => x.paths } : RP) = _
  rw [hl]
theorem set_same {α : Type} {l : List α} {k : Nat} {y : α} (h : l[k]? = some y) : l.set k y = l := by
  obtain ⟨hk, rfl⟩ := List.getElem?_eq_some_iff.1 h
  exact List.set_getElem_self hk
theorem dam_no7 (h : pickN a 12 = 7) (h1 : x.paths.length = x.rows.length) (h0 : x.rows.length = 0 ∨ x.paths[pickN b (max x.rows.length 1)]? = some []) : damT x a b c = x := by
  rcases h0 with h0 | h0
  · unfold damT; rw [h]
    show ({ x with paths := match x.paths[pickN b (max x.rows.length 1)]? with
      | some l => x.paths.set (pickN b (max x.rows.length 1)) (l.set 0 (sha [120]))
      | none => x.paths } : RP) = _
    rw [List.getElem?_eq_none (by omega)]
  · rw [dam_at7 h h0]
    show ({ x with paths := x.paths.set _ [] } : RP) = x
    rw [set_same h0]
theorem dam_at8 (h : pickN a 12 = 8) : damT x a b c = { x with roots := x.roots.set (pickN c x.roots.length) (sha [121]) } := by unfold damT; rw [h]; rfl
theorem dam_at9 (h : pickN a 12 = 9) : damT x a b c = { x with cl := (pickN c 4 : Int) } := by unfold damT; rw [h]; rfl
theorem dam_at10 (h : pickN a 12 = 10) : damT x a b c = { x with rows := [], paths := [], ct := 0, fi := 0 } := by unfold damT; rw [h]; rfl
theorem dam_at11 (h : pickN a 12 = 11) : damT x a b c = x := by unfold damT; rw [h]; rfl
end
theorem pick10m (c : Int) (m : Nat) (hm : m ≤ 1000000) (h1 : -9223372036854775808 ≤ c) (h2 : c ≤ 9223372036854775807) : DoesR Tryz.prog 29 #[.int .i64 c, .int .i64 (max ((m : Nat) : Int) 1)] [] (.int .i64 (pickN c (max m 1) : Int)) := by
  rw [max_one]
  exact pick10 c (max m 1) (by omega) (by omega) h1 h2

set_option maxHeartbeats 2000000 in
theorem damaged10 {M : List Chunk} {v : Value} {x : RP} (hv : RPIn M v x) (hw : x.paths.length = x.rows.length) (hnr : x.rows.length ≤ 1000000) (hnt : x.roots.length ≤ 1000000) (hnt0 : 0 < x.roots.length) (hpp : ∀ l ∈ x.paths, l.length ≤ 1000000) {B : Int} (hB : DamB x B) (hB2 : B ≤ 4000000000000000000) (a b c : Int) (ha1 : -9223372036854775808 ≤ a) (ha2 : a ≤ 9223372036854775807) (hb1 : -9223372036854775808 ≤ b) (hb2 : b ≤ 9223372036854775807) (hc1 : -9223372036854775808 ≤ c) (hc2 : c ≤ 9223372036854775807) (Tg : TypeId) (zg : Nat × Nat) : Does Tryz.prog 21 #[v, .agg #[.int .i64 a, .int .i64 b, .int .i64 c]] [[(0, .cells (kTab.map u32v).toArray Tg zg)], M] (fun r H' => ∃ z1 z2 z3 z4, RPIn (z1 ++ (z2 ++ (z3 ++ (z4 ++ M)))) r (damT x a b c) ∧ H' = [z1, z2, z3, z4, [(0, .cells (kTab.map u32v).toArray Tg zg)], M]) := by
 have hml : maxLen = 9223372036854775807 := rfl
 obtain ⟨vr, vp, vt, rfl, hR, hP, hT⟩ := id hv
 obtain ⟨q1, c1, rfl, hl1, hg1⟩ := id hR
 obtain ⟨q2, c2, rfl, hl2, hg2⟩ := id hP
 obtain ⟨q3, c3, rfl, hl3, hg3⟩ := id hT
 have hC1 := rowsU_cells hR
 obtain ⟨pvs, hC2, hPS⟩ := pathsU_cells hP
 have hC3 := strsU_cells hT
 have hkm := pickN_lt b (max x.rows.length 1) (by omega)
 have hj12 := pickN_lt a 12 (by decide)
 have hj3 := pickN_lt c 3 (by decide)
 have hj4 := pickN_lt c 4 (by decide)
 have hj5 := pickN_lt c 5 (by decide)
 have hjn := pickN_lt c x.roots.length hnt0
 obtain ⟨hBl, hBh, hBc, hBf, hBr⟩ := id hB
 refine spec_enter func21 rfl ntmps21 rfl ?_
 intro u R
 refine Zb [0, 1] ?_
 refine Zq <| Zg <| Ze (w_box Y (cs := #[_, _, _, _, _, _, _, _, _]) rfl) ?_
 rintro _ _ ⟨pb, rfl, rfl⟩
 refine Ze (w_box Y (cs := #[_, _, _]) rfl) ?_
 rintro _ _ ⟨pw, rfl, rfl⟩
 refine Ze (w_alloc zeroValue37 (cs := #[_, _, _, _, _, _, _, _, _]) rfl) ?_
 rintro _ _ ⟨rb, rfl, rfl⟩
 refine Z0 <| Zx <| Zq <| Zg <| Ze (w_buildSlice0 underlying33 sizeOf74) ?_
 rintro _ _ ⟨g1, rfl, rfl⟩
 refine Zh 6 underlying37 rfl rfl sizeOf33 Y <| Zl isAgg33 Y ?_
 refine Ze (w_appendM (by_ := 40) (sz := 5) underlying33 (rfl : Tryz.prog.info? 74 = some Tryz.t74) rfl rfl rfl rfl Y (rowS_new 5 74 g1 0 [] rfl (by decide)) Y (hC1) (by exact rowCells_len _) (by decide) (by repeat (first | exact One.here _ _ | apply One.there)) (by repeat (first | exact One.here _ _ | apply One.there)) (by exact rowCells_one _) (by omega) (by omega)) ?_
 rintro _ _ ⟨sa1, hra1, rfl⟩
 replace hra1 := rowS_eq hra1 (Nat.zero_add _) (List.nil_append _)
 obtain ⟨ga1, ca1, rfl⟩ := hra1.form
 refine Zh 6 underlying37 rfl rfl sizeOf33 Y <| Ze (Zs sizeOf33 Y Y rfl (hc := by exact (rfl : _ = (#[.int .i64 x.tb, .int .i64 x.cl, .int .i64 x.lo, .int .i64 x.hi, .int .i64 x.ct, .int .i64 x.fi, .slice ga1 x.rows.length ca1, .slice q2 x.paths.length c2, .slice q3 x.roots.length c3] : Array Value))) (hi := by first | omega | decide | (simp; done))) ?_
 rintro _ _ ⟨rfl, rfl⟩
 refine Z0 <| Zx <| Zq <| Zg <| Ze (w_buildSlice0 underlying34 sizeOf35) ?_
 rintro _ _ ⟨g2, rfl, rfl⟩
 refine Zh 7 underlying37 rfl rfl sizeOf34 Y <| Zl isAgg34 Y ?_
 refine Ze (w_appendM (by_ := 24) (sz := 1) underlying34 (rfl : Tryz.prog.info? 35 = some Tryz.t35) rfl rfl rfl rfl Y (rowS_new 1 35 g2 0 [] rfl (by decide)) Y (hC2) (by rw [hPS.1]; omega) (by decide) (by repeat (first | exact One.here _ _ | apply One.there)) (by repeat (first | exact One.here _ _ | apply One.there)) (by exact hPS.one) (by omega) (by omega)) ?_
 rintro _ _ ⟨sb1, hrb1, rfl⟩
 replace hrb1 := rowS_eq hrb1 (Nat.zero_add _) (List.nil_append _)
 obtain ⟨gb1, cb1, rfl⟩ := hrb1.form
 refine Zh 7 underlying37 rfl rfl sizeOf34 Y <| Ze (Zs sizeOf34 Y Y rfl (hc := by exact (rfl : _ = (#[.int .i64 x.tb, .int .i64 x.cl, .int .i64 x.lo, .int .i64 x.hi, .int .i64 x.ct, .int .i64 x.fi, .slice ga1 x.rows.length ca1, .slice gb1 x.paths.length cb1, .slice q3 x.roots.length c3] : Array Value))) (hi := by first | omega | decide | (simp; done))) ?_
 rintro _ _ ⟨rfl, rfl⟩
 refine Z0 <| Zn [2, 3, 4] ?_
 refine Zx <| Zq <| Zg <| Ze (w_buildSlice0 underlying35 sizeOf9) ?_
 rintro _ _ ⟨g3, rfl, rfl⟩
 refine Zh 8 underlying37 rfl rfl sizeOf35 Y <| Zl isAgg35 Y ?_
 refine Ze (w_appendM (by_ := 16) (sz := 1) underlying35 (rfl : Tryz.prog.info? 9 = some Tryz.t9) rfl rfl rfl rfl Y (rowS_new 1 9 g3 0 [] rfl (by decide)) Y (hC3) (by rw [List.length_map]; omega) (by decide) (by repeat (first | exact One.here _ _ | apply One.there)) (by repeat (first | exact One.here _ _ | apply One.there)) (by exact strV_one _) (by omega) (by omega)) ?_
 rintro _ _ ⟨sd1, hrd1, rfl⟩
 replace hrd1 := rowS_eq hrd1 (Nat.zero_add _) (List.nil_append _)
 obtain ⟨gd1, cd1, rfl⟩ := hrd1.form
 refine Zh 8 underlying37 rfl rfl sizeOf35 Y <| Ze (Zs sizeOf35 Y Y rfl (hc := by exact (rfl : _ = (#[.int .i64 x.tb, .int .i64 x.cl, .int .i64 x.lo, .int .i64 x.hi, .int .i64 x.ct, .int .i64 x.fi, .slice ga1 x.rows.length ca1, .slice gb1 x.paths.length cb1, .slice gd1 x.roots.length cd1] : Array Value))) (hi := by first | omega | decide | (simp; done))) ?_
 rintro _ _ ⟨rfl, rfl⟩
 refine Z0 <| Zx <| Zq <| Zg <| Zh 6 underlying37 rfl rfl sizeOf33 Y <| Zl isAgg33 Y ?_
 refine Zv (p_len_slice underlying33 Y) <| Za Y <| Z0 <| Zx <| Zq <| Zg ?_
 (refine op_v (p_indexAddr_arr0 (j := 1) underlying47 sizeOf3 Y Y ?_) ?_; (focus (first | omega | decide | (simp; done))))
 refine Zl isAgg3 Y ?_
 refine Zm Y <| Zv (p_max_int Y Y) <| Zr [_, _] Y call29 Y rfl (pick10m b x.rows.length hnr hb1 hb2) ?_
 rintro _ _ ⟨rfl, rfl⟩
 have hle1 := rowS_le hra1
 have hle2 := rowS_le hrb1
 have hle3 := rowS_le hrd1
 refine Za Y <| Z0 <| Zn [2, 3, 4, 5, 6] ?_
 refine Zx <| at_nil ?_
 refine at_nil ?_
 refine at_nil ?_
 refine Zb [3, 5, 6, 2, 4] ?_
 refine at_cutB (e0 := [(3, _), (5, _), (6, _)]) (H0 := [[(pb, _)], [], [], [], sa1, sb1, sd1]) (fun e H => ∃ (u : RP) (qa qb qc : Option Addr) (na nb nc ca cb cc : Nat) (z1 z2 z3 z4 : List Chunk), (u = damT x a b c ∧ RPIn (z1 ++ (z2 ++ (z3 ++ (z4 ++ M)))) (.agg #[.int .i64 u.tb, .int .i64 u.cl, .int .i64 u.lo, .int .i64 u.hi, .int .i64 u.ct, .int .i64 u.fi, .slice qa na ca, .slice qb nb cb, .slice qc nc cc]) u) ∧ e = [] ∧ H = [[(pb, .cells #[.int .i64 u.tb, .int .i64 u.cl, .int .i64 u.lo, .int .i64 u.hi, .int .i64 u.ct, .int .i64 u.fi, .slice qa na ca, .slice qb nb cb, .slice qc nc cc] 37 (0, 0))], z1, z2, z3, z4]) (by repeat (first | exact Pull.nil _ | (apply Pull.cons; (focus (repeat (first | exact One.here _ _ | apply One.there)))))) ?hx_1 ?hy_1
 case hx_1 =>
  refine Zq <| Zg ?_
  (refine op_v (p_indexAddr_arr0 (j := 0) underlying47 sizeOf3 Y Y ?_) ?_; (focus (first | omega | decide | (simp; done))))
  refine Zl isAgg3 Y ?_
  refine Zr [_, _] Y call29 Y rfl (pick10 a 12 (by decide) (by decide) ha1 ha2) ?_
  rintro _ _ ⟨rfl, rfl⟩
  refine Z0 <| Zx <| at_block <| Zq <| Zg <| Zv (p_eql_nat (n := 0) Y Y) <| Za Y <| Z0 <| Zx ?_
  refine at_if Y (fun h0 => ?_) (fun h0 => ?_)
  ·
   refine Zg <| Zh 5 underlying37 rfl rfl sizeOf3 Y <| Zl isAgg3 Y ?_
   refine Yi Y Y <| Zh 5 underlying37 rfl rfl sizeOf3 Y <| Ze (Zs sizeOf3 Y Y rfl) ?_
   rintro _ _ ⟨rfl, rfl⟩
   refine Z0 <| nx_block_normal <| Zn [2, 4] ?_
   refine nx_cutB (e' := []) (H' := _) (by exact ⟨{ x with fi := x.fi + 1 }, _, _, _, _, _, _, _, _, _, _, _, _, [], ⟨(dam_at0 (by omega)).symm, rpin_of (u := { x with fi := x.fi + 1 }) (hra1) (rfl) (rfl) (hrb1) (hPS) (hrd1) (rfl) (rfl) (by omega) (by omega) (by omega)⟩, rfl, rfl⟩)
  ·
   refine Zq <| Zg <| Zv (p_eql_nat (n := 1) Y Y) <| Za Y <| Z0 <| Zx ?_
   refine at_if Y (fun h1 => ?_) (fun h1 => ?_)
   ·
    refine Zg <| Zh 4 underlying37 rfl rfl sizeOf3 Y <| Zl isAgg3 Y ?_
    (refine op_v (p_sub Y Y (IntWalk.i64_in _ ?_)) ?_; (focus (omega)))
    refine Zh 4 underlying37 rfl rfl sizeOf3 Y <| Ze (Zs sizeOf3 Y Y rfl) ?_
    rintro _ _ ⟨rfl, rfl⟩
    refine Z0 <| nx_block_normal <| Zn [2, 4] ?_
    refine nx_cutB (e' := []) (H' := _) (by exact ⟨{ x with ct := x.ct - 1 }, _, _, _, _, _, _, _, _, _, _, _, _, [], ⟨(dam_at1 (by omega)).symm, rpin_of (u := { x with ct := x.ct - 1 }) (hra1) (rfl) (rfl) (hrb1) (hPS) (hrd1) (rfl) (rfl) (by omega) (by omega) (by omega)⟩, rfl, rfl⟩)
   ·
    refine Zq <| Zg <| Zv (p_eql_nat (n := 2) Y Y) <| Za Y <| Z0 <| Zx ?_
    refine at_if Y (fun h2 => ?_) (fun h2 => ?_)
    ·
     refine at_draw (n := 9) (0 :: 1 :: 3 :: 0 :: 8 :: 24 :: 63 :: 127 :: 255 :: []) 288 (by kernel_rfl) (by kernel_rfl) rfl ?_
     refine Zi 1 0 rfl (p_fieldAddr0 (off := 2) underlying37 rfl rfl sizeOf3 Y) <| Zj 3 1 rfl isAgg3 Y ?_
     (refine lin_v (D' := 7) 2 (p_sub Y Y (IntWalk.i64_in _ ?_)) ?_; (focus (omega)))
     (refine lin_v (D' := 15) 3 (p_indexAddr_arr0 (j := 2) underlying47 sizeOf3 Y Y ?_) ?_; (focus (first | omega | decide | (simp; done))))
     refine Zj 31 4 rfl isAgg3 Y ?_
     refine Zz (l := [5]) ?_
     refine Zy 24 63 [4, 1] [false, true] [(1, (_, _))] rfl Y rfl rfl rfl rfl (Zu [_, _] Y call29 Y rfl (pick10 c 5 (by omega) (by omega) hc1 hc2)) ?hk_4 (fun _ _ h => h.elim) ?hl_4
     case hk_4 =>
      rintro _ _ ⟨rfl, rfl⟩
      refine ⟨Zk (keep_nil), ?_⟩
      (refine lin_v (D' := 127) 6 (p_sub Y Y (IntWalk.i64_in _ ?_)) ?_; (focus (omega)))
      refine Zi 255 7 rfl (p_fieldAddr0 (off := 2) underlying37 rfl rfl sizeOf3 Y) <| Zz (l := [8]) ?_
      refine Zy 255 511 [1] [false] [] rfl Y rfl rfl rfl rfl (Zs sizeOf3 Y Y rfl (hi := by first | omega | decide | (simp; done))) ?hk_5 (fun _ _ h => h.elim) ?hl_5
      case hk_5 =>
       rintro _ _ ⟨rfl, rfl⟩
       refine ⟨keep_nil, ?_⟩
       refine lin_nil ?_
       refine Zn [2, 4] ?_
       refine nx_block_normal <| Zn [2, 4] ?_
       refine nx_cutB (e' := []) (H' := _) (by exact ⟨{ x with lo := x.lo - 1 - (pickN c 5 : Int) }, _, _, _, _, _, _, _, _, _, _, _, _, [], ⟨(dam_at2 (by omega)).symm, rpin_of (u := { x with lo := x.lo - 1 - (pickN c 5 : Int) }) (hra1) (rfl) (rfl) (hrb1) (hPS) (hrd1) (rfl) (rfl) (by omega) (by omega) (by omega)⟩, rfl, rfl⟩)
      case hl_5 =>
       exact each_nil
     case hl_4 =>
      exact each_nil
    ·
     refine Zq <| Zg <| Zv (p_eql_nat (n := 3) Y Y) <| Za Y <| Z0 <| Zx ?_
     refine at_if Y (fun h3 => ?_) (fun h3 => ?_)
     ·
      refine at_draw (n := 9) (0 :: 1 :: 3 :: 0 :: 8 :: 24 :: 63 :: 127 :: 255 :: []) 288 (by kernel_rfl) (by kernel_rfl) rfl ?_
      refine Zi 1 0 rfl (p_fieldAddr0 (off := 3) underlying37 rfl rfl sizeOf3 Y) <| Zj 3 1 rfl isAgg3 Y ?_
      (refine lin_v (D' := 7) 2 (p_add Y Y (IntWalk.i64_in _ ?_)) ?_; (focus (omega)))
      (refine lin_v (D' := 15) 3 (p_indexAddr_arr0 (j := 2) underlying47 sizeOf3 Y Y ?_) ?_; (focus (first | omega | decide | (simp; done))))
      refine Zj 31 4 rfl isAgg3 Y ?_
      refine Zz (l := [5]) ?_
      refine Zy 24 63 [4, 1] [false, true] [(1, (_, _))] rfl Y rfl rfl rfl rfl (Zu [_, _] Y call29 Y rfl (pick10 c 5 (by omega) (by omega) hc1 hc2)) ?hk_7 (fun _ _ h => h.elim) ?hl_7
      case hk_7 =>
       rintro _ _ ⟨rfl, rfl⟩
       refine ⟨Zk (keep_nil), ?_⟩
       (refine lin_v (D' := 127) 6 (p_add Y Y (IntWalk.i64_in _ ?_)) ?_; (focus (omega)))
       refine Zi 255 7 rfl (p_fieldAddr0 (off := 3) underlying37 rfl rfl sizeOf3 Y) <| Zz (l := [8]) ?_
       refine Zy 255 511 [1] [false] [] rfl Y rfl rfl rfl rfl (Zs sizeOf3 Y Y rfl (hi := by first | omega | decide | (simp; done))) ?hk_8 (fun _ _ h => h.elim) ?hl_8
       case hk_8 =>
        rintro _ _ ⟨rfl, rfl⟩
        refine ⟨keep_nil, ?_⟩
        refine lin_nil ?_
        refine Zn [2, 4] ?_
        refine nx_block_normal <| Zn [2, 4] ?_
        refine nx_cutB (e' := []) (H' := _) (by exact ⟨{ x with hi := x.hi + 1 + (pickN c 5 : Int) }, _, _, _, _, _, _, _, _, _, _, _, _, [], ⟨(dam_at3 (by omega)).symm, rpin_of (u := { x with hi := x.hi + 1 + (pickN c 5 : Int) }) (hra1) (rfl) (rfl) (hrb1) (hPS) (hrd1) (rfl) (rfl) (by omega) (by omega) (by omega)⟩, rfl, rfl⟩)
       case hl_8 =>
        exact each_nil
      case hl_7 =>
       exact each_nil
     ·
      refine Zq <| Zg <| Zv (p_eql_nat (n := 4) Y Y) <| Za Y <| Z0 <| Zn [2, 3, 4, 5, 6, 32, 65] ?_
      refine Zx ?_
      refine at_if Y (fun h4 => ?_) (fun h4 => ?_)
      ·
       refine Zq <| Zg <| Zm Y <| Zv (p_gtr_nat (n := 0) Y Y) <| Z0 <| Zx ?_
       refine at_if Y (fun hn4 => ?_) (fun hn4 => ?_)
       ·
        have hkl : (pickN b (max x.rows.length 1)) < x.rows.length := by omega
        obtain ⟨r, hr4⟩ : ∃ r, x.rows[(pickN b (max x.rows.length 1))]? = some r := ⟨_, List.getElem?_eq_getElem hkl⟩
        obtain ⟨hv4a, hv4b, hv4c⟩ := hBr r (List.mem_of_getElem? hr4)
        obtain ⟨gr, cr, curr, zr, hvr, rfl, hcr, hsr, hinr, hfr⟩ := rowS_open hra1 (by omega)
        injection hvr with e1 _ e3
        subst e1 e3
        have hc4 := hinr ((pickN b (max x.rows.length 1)) * 5 + (2 + pickN c 3)) _ ((rowCells_at hr4 (2 + pickN c 3) (by omega)).trans (valJ_cell r hj3))
        rw [← Nat.add_assoc] at hc4
        have hv4 : -B ≤ valJ r (pickN c 3) ∧ valJ r (pickN c 3) ≤ B := by unfold valJ; split; exact hv4a; split; exact hv4b; exact hv4c
        refine at_draw (n := 15) (0 :: 1 :: 0 :: 0 :: 8 :: 24 :: 7 :: 71 :: 255 :: 511 :: 1023 :: 7 :: 2055 :: 8191 :: 16383 :: []) 16416 (by kernel_rfl) (by kernel_rfl) rfl ?_
        refine Zi 1 0 rfl (p_fieldAddr0 (off := 6) underlying37 rfl rfl sizeOf33 Y) <| Zj 3 1 rfl isAgg33 Y ?_
        refine Zi 7 2 rfl (p_move Y) ?_
        (refine lin_v (D' := 15) 3 (p_indexAddr_arr0 (j := 2) underlying47 sizeOf3 Y Y ?_) ?_; (focus (first | omega | (simp; omega))))
        refine Zj 31 4 rfl isAgg3 Y ?_
        (refine lin_v (D' := 95) 6 (p_indexAddr_nat underlying33 sizeOf74 Y Y ?_) ?_; (focus (first | omega | (simp; omega))))
        refine Zi 223 7 rfl (p_fieldAddr1 (off := 2) underlying74 rfl rfl sizeOf47 Y) ?_
        (refine lin_v (D' := 2271) 11 (p_indexAddr_nat underlying33 sizeOf74 Y Y ?_) ?_; (focus (first | omega | (simp; omega))))
        refine Zi 6367 12 rfl (p_fieldAddr1 (off := 2) underlying74 rfl rfl sizeOf47 Y) <| Zz (l := [5]) ?_
        refine Zy 24 6399 [4, 1] [false, true] [(1, (_, _))] rfl Y rfl rfl rfl rfl (Zu [_, _] Y call29 Y rfl (pick10 c 3 (by omega) (by omega) hc1 hc2)) ?hk_10 (fun _ _ h => h.elim) ?hl_10
        case hk_10 =>
         rintro _ _ ⟨rfl, rfl⟩
         refine ⟨Zk (keep_nil), ?_⟩
         (refine lin_v (D' := 6655) 8 (p_indexAddr_arr underlying47 sizeOf3 Y Y ?_) ?_; (focus (first | omega | (simp; omega))))
         refine Zj 7167 9 rfl isAgg3 Y (hv := by (rw [Nat.zero_add, Nat.mul_one]; exact hc4)) ?_
         (refine lin_v (D' := 8191) 10 (p_add Y Y (IntWalk.i64_in _ ?_)) ?_; (focus (omega)))
         (refine lin_v (D' := 16383) 13 (p_indexAddr_arr underlying47 sizeOf3 Y Y ?_) ?_; (focus (first | omega | (simp; omega))))
         refine Zz (l := [14]) ?_
         refine Zy 16383 32767 [9, 1] [false, false] [] rfl Y rfl rfl rfl rfl (Zs sizeOf3 Y Y rfl (hi := by first | omega | (simp; omega)) (hz := by exact hfr)) ?hk_11 (fun _ _ h => h.elim) ?hl_11
         case hk_11 =>
          rintro _ _ ⟨rfl, rfl⟩
          refine ⟨keep_nil, ?_⟩
          refine lin_nil ?_
          refine Zn [2, 4] ?_
          refine nx_block_normal <| Zn [2, 4] ?_
          refine nx_cutB (e' := []) (H' := _) (by exact ⟨{ x with rows := x.rows.set (pickN b (max x.rows.length 1)) (bumpV r (pickN c 3)) }, _, _, _, _, _, _, _, _, _, _, _, _, [], ⟨(dam_at4 (by omega) hr4).symm, rpin_of (u := { x with rows := x.rows.set (pickN b (max x.rows.length 1)) (bumpV r (pickN c 3)) }) (rowS_set hra1 (0 + (pickN b (max x.rows.length 1)) * 5 + 2 + pickN c 3 * 1) (.int .i64 (valJ r (pickN c 3) + 1))) ((List.length_set ..).symm) (by rw [Nat.zero_add, Nat.mul_one, Nat.add_assoc]; exact rowCells_set hr4 (by omega) (bump_cells r hj3)) (hrb1) (hPS) (hrd1) (rfl) (rfl) (by omega) (by omega) (by omega)⟩, rfl, rfl⟩)
         case hl_11 =>
          exact each_nil
        case hl_10 =>
         exact each_nil
       ·
        refine at_skip <| nx_block_normal <| Zn [2, 4] ?_
        refine nx_cutB (e' := []) (H' := _) (by exact ⟨x, _, _, _, _, _, _, _, _, _, _, _, _, [], ⟨(dam_no4 (by omega) (by omega)).symm, rpin_of (u := x) (hra1) (rfl) (rfl) (hrb1) (hPS) (hrd1) (rfl) (rfl) (by omega) (by omega) (by omega)⟩, rfl, rfl⟩)
      ·
       refine Zq <| Zg <| Zv (p_eql_nat (n := 5) Y Y) <| Za Y <| Z0 <| Zx ?_
       refine at_if Y (fun h5 => ?_) (fun h5 => ?_)
       ·
        refine Zq <| Zg <| Zm Y <| Zv (p_gtr_nat (n := 0) Y Y) <| Z0 <| Zx ?_
        refine at_if Y (fun hn5 => ?_) (fun hn5 => ?_)
        ·
         have hkl : (pickN b (max x.rows.length 1)) < x.rows.length := by omega
         refine Zq <| at_draw (n := 12) (0 :: 1 :: 0 :: 7 :: 0 :: 16 :: 0 :: 64 :: 240 :: 511 :: 1023 :: 2047 :: []) 2560 (by kernel_rfl) (by kernel_rfl) rfl ?_
         refine Zi 1 0 rfl (p_fieldAddr0 (off := 6) underlying37 rfl rfl sizeOf33 Y) <| Zj 3 1 rfl isAgg33 Y ?_
         refine Zi 7 2 rfl (p_move Y) ?_
         (refine lin_v (D' := 15) 3 (p_slice_slice_to underlying33 sizeOf74 Y Y ?_) ?_; (focus (first | omega | decide | (simp; done))))
         refine Zi 31 4 rfl (p_fieldAddr0 (off := 6) underlying37 rfl rfl sizeOf33 Y) <| Zj 63 5 rfl isAgg33 Y ?_
         refine Zi 127 6 rfl (p_move Y) ?_
         (refine lin_v (D' := 255) 7 (p_add_nat (n := 1) Y Y ?_) ?_; (focus (omega)))
         (refine lin_v (D' := 511) 8 (p_slice_slice_from underlying33 sizeOf74 Y Y ?_) ?_; (focus (first | omega | decide | (simp; done))))
         refine Zz (l := [9]) ?_
         refine Zy 511 1023 [5, 1] [false, false] [] rfl Y rfl rfl rfl rfl (w_append_shift (sz := 5) underlying33 (rfl : Tryz.prog.info? 74 = some Tryz.t74) rfl Y (hra1) (by omega) Y rfl (by repeat (first | exact One.here _ _ | apply One.there)) (by exact rowCells_one _)) ?hk_14 (fun _ _ h => h.elim) ?hl_14
         case hk_14 =>
          rintro _ _ ⟨rfl, sw5, hrw5, rfl⟩
          refine ⟨keep_nil, ?_⟩
          refine Zi 2047 10 rfl (p_fieldAddr0 (off := 6) underlying37 rfl rfl sizeOf33 Y) <| Zz (l := [11]) ?_
          refine Zy 2047 4095 [] [] [] rfl Y rfl rfl rfl rfl (Zs sizeOf33 Y Y rfl (hi := by first | omega | decide | (simp; done))) ?hk_15 (fun _ _ h => h.elim) ?hl_15
          case hk_15 =>
           rintro _ _ ⟨rfl, rfl⟩
           refine ⟨keep_nil, ?_⟩
           refine lin_nil ?_
           refine Zn [2, 4, 6] ?_
           refine Zx <| at_draw (n := 12) (0 :: 1 :: 0 :: 7 :: 0 :: 16 :: 0 :: 64 :: 240 :: 511 :: 1023 :: 2047 :: []) 2560 (by kernel_rfl) (by kernel_rfl) rfl ?_
           refine Zi 1 0 rfl (p_fieldAddr0 (off := 7) underlying37 rfl rfl sizeOf34 Y) <| Zj 3 1 rfl isAgg34 Y ?_
           refine Zi 7 2 rfl (p_move Y) ?_
           (refine lin_v (D' := 15) 3 (p_slice_slice_to underlying34 sizeOf35 Y Y ?_) ?_; (focus (first | omega | decide | (simp; done))))
           refine Zi 31 4 rfl (p_fieldAddr0 (off := 7) underlying37 rfl rfl sizeOf34 Y) <| Zj 63 5 rfl isAgg34 Y ?_
           refine Zi 127 6 rfl (p_move Y) ?_
           (refine lin_v (D' := 255) 7 (p_add_nat (n := 1) Y Y ?_) ?_; (focus (omega)))
           (refine lin_v (D' := 511) 8 (p_slice_slice_from underlying34 sizeOf35 Y Y ?_) ?_; (focus (first | omega | decide | (simp; done))))
           refine Zz (l := [9]) ?_
           refine Zy 511 1023 [5, 1] [false, false] [] rfl Y rfl rfl rfl rfl (w_append_shift (sz := 1) underlying34 (rfl : Tryz.prog.info? 35 = some Tryz.t35) rfl Y (hrb1) (by omega) Y rfl (by repeat (first | exact One.here _ _ | apply One.there)) (by exact hPS.one)) ?hk_16 (fun _ _ h => h.elim) ?hl_16
           case hk_16 =>
            rintro _ _ ⟨rfl, sw6, hrw6, rfl⟩
            refine ⟨keep_nil, ?_⟩
            refine Zi 2047 10 rfl (p_fieldAddr0 (off := 7) underlying37 rfl rfl sizeOf34 Y) <| Zz (l := [11]) ?_
            refine Zy 2047 4095 [] [] [] rfl Y rfl rfl rfl rfl (Zs sizeOf34 Y Y rfl (hi := by first | omega | decide | (simp; done))) ?hk_17 (fun _ _ h => h.elim) ?hl_17
            case hk_17 =>
             rintro _ _ ⟨rfl, rfl⟩
             refine ⟨keep_nil, ?_⟩
             refine lin_nil ?_
             refine nx_block_normal <| Zn [2, 4] ?_
             refine nx_cutB (e' := []) (H' := _) (by exact ⟨{ x with rows := x.rows.eraseIdx (pickN b (max x.rows.length 1)), paths := x.paths.eraseIdx (pickN b (max x.rows.length 1)) }, _, _, _, _, _, _, _, _, _, _, _, _, [], ⟨(dam_at5 (by omega)).symm, rpin_of (u := { x with rows := x.rows.eraseIdx (pickN b (max x.rows.length 1)), paths := x.paths.eraseIdx (pickN b (max x.rows.length 1)) }) (hrw5) (by rw [List.length_eraseIdx_of_lt (by omega)]; omega) (rowCells_erase ..) (hrw6) (hPS.erase _) (hrd1) (rfl) (rfl) (by omega) (by omega) (by omega)⟩, rfl, rfl⟩)
            case hl_17 =>
             exact each_nil
           case hl_16 =>
            exact each_nil
          case hl_15 =>
           exact each_nil
         case hl_14 =>
          exact each_nil
        ·
         refine at_skip <| nx_block_normal <| Zn [2, 4] ?_
         refine nx_cutB (e' := []) (H' := _) (by exact ⟨x, _, _, _, _, _, _, _, _, _, _, _, _, [], ⟨(dam_no5 (by omega) (by omega) hw).symm, rpin_of (u := x) (hra1) (rfl) (rfl) (hrb1) (hPS) (hrd1) (rfl) (rfl) (by omega) (by omega) (by omega)⟩, rfl, rfl⟩)
       ·
        refine Zq <| Zg <| Zv (p_eql_nat (n := 6) Y Y) <| Za Y <| Z0 <| Zx ?_
        refine at_if Y (fun h6 => ?_) (fun h6 => ?_)
        ·
         refine Zq <| Zg <| Zm Y <| Zv (p_gtr_nat (n := 1) Y Y) <| Z0 <| Zx ?_
         refine at_if Y (fun hn6 => ?_) (fun hn6 => ?_)
         ·
          have hkl : (pickN b (max x.rows.length 1)) < x.rows.length := by omega
          obtain ⟨x6, hx6⟩ : ∃ r, x.rows[0]? = some r := ⟨_, List.getElem?_eq_getElem (by omega)⟩
          obtain ⟨y6, hy6⟩ : ∃ r, x.rows[(pickN b (max x.rows.length 1))]? = some r := ⟨_, List.getElem?_eq_getElem hkl⟩
          obtain ⟨l6, hl6⟩ : ∃ r, x.paths[0]? = some r := ⟨_, List.getElem?_eq_getElem (by omega)⟩
          obtain ⟨m6, hm6⟩ : ∃ r, x.paths[(pickN b (max x.rows.length 1))]? = some r := ⟨_, List.getElem?_eq_getElem (by omega)⟩
          have hpl6 := hPS.1
          obtain ⟨u6, hu6⟩ : ∃ r, pvs[0]? = some r := ⟨_, List.getElem?_eq_getElem (by omega)⟩
          obtain ⟨w6, hw6⟩ : ∃ r, pvs[(pickN b (max x.rows.length 1))]? = some r := ⟨_, List.getElem?_eq_getElem (by omega)⟩
          obtain ⟨gr, cr, curr, zr, hvr, rfl, hcr, hsr, hinr, hfr⟩ := rowS_open hra1 (by omega)
          injection hvr with e1 _ e3
          subst e1 e3
          obtain ⟨gp, cp, curp, zp, hvp, rfl, hcp, hsp, hinp, hfp⟩ := rowS_open hrb1 (by omega)
          injection hvp with e1 _ e3
          subst e1 e3
          have hey := ext_row hinr hy6 (by omega)
          have hex := ext_row hinr hx6 (by omega)
          have hcu := hinp _ _ hu6
          have hcw := hinp _ _ hw6
          have hSu := hPS.2 _ _ _ hu6 hl6
          have hSw := hPS.2 _ _ _ hw6 hm6
          obtain ⟨pu6, cu6, rfl, _⟩ := id hSu
          obtain ⟨pw6, cw6, rfl, _⟩ := id hSw
          have hov : ∀ ys : List Value, ys.length = 5 → (over curr (0 + 0 * 5) ys).size = curr.size := fun ys h => over_size (by omega)
          refine Zq <| at_draw (n := 18) (0 :: 1 :: 0 :: 4 :: 0 :: 0 :: 32 :: 0 :: 224 :: 480 :: 0 :: 1024 :: 3072 :: 7168 :: 16355 :: 32739 :: 65535 :: 131071 :: []) 163840 (by kernel_rfl) (by kernel_rfl) rfl ?_
          refine Zi 1 0 rfl (p_fieldAddr0 (off := 6) underlying37 rfl rfl sizeOf33 Y) <| Zj 3 1 rfl isAgg33 Y ?_
          refine Zi 7 2 rfl (p_fieldAddr0 (off := 6) underlying37 rfl rfl sizeOf33 Y) <| Zj 15 3 rfl isAgg33 Y ?_
          refine Zi 31 4 rfl (p_move Y) <| Zi 63 5 rfl (p_fieldAddr0 (off := 6) underlying37 rfl rfl sizeOf33 Y) <| Zj 127 6 rfl isAgg33 Y ?_
          refine Zi 255 7 rfl (p_move Y) ?_
          (refine lin_v (D' := 511) 8 (p_indexAddr_nat underlying33 sizeOf74 Y Y ?_) ?_; (focus (first | omega | (rw [hov _ rfl]; omega))))
          refine lin_r (D' := 1023) 9 rfl rfl rfl (by repeat (first | exact Has.here _ | apply Has.there)) (p_load_agg (cs := #[_, _, _, _, _]) isAgg74 sizeOf74 Y (by first | omega | (rw [hov _ rfl]; omega)) (by exact hey)) ?_
          refine Zi 2047 10 rfl (p_fieldAddr0 (off := 6) underlying37 rfl rfl sizeOf33 Y) <| Zj 4095 11 rfl isAgg33 Y ?_
          (refine lin_v (D' := 8191) 12 (p_indexAddr_nat (j := 0) underlying33 sizeOf74 Y Y ?_) ?_; (focus (first | omega | (rw [hov _ rfl]; omega))))
          refine lin_r (D' := 16383) 13 rfl rfl rfl (by repeat (first | exact Has.here _ | apply Has.there)) (p_load_agg (cs := #[_, _, _, _, _]) isAgg74 sizeOf74 Y (by first | omega | (rw [hov _ rfl]; omega)) (by exact hex)) ?_
          (refine lin_v (D' := 32767) 14 (p_indexAddr_nat (j := 0) underlying33 sizeOf74 Y Y ?_) ?_; (focus (first | omega | (rw [hov _ rfl]; omega))))
          refine Zz (l := [15]) ?_
          refine Zy 32739 65535 [13, 11, 9, 6, 3, 1] [false, false, false, false, true, false] [(3, (_, _))] rfl Y rfl rfl rfl rfl (w_store_agg sizeOf74 Y Y (by (simp [Value.oneCell']; done)) (by repeat (first | exact Upd.here _ | apply Upd.there)) (by rfl) (by first | rfl | (simp; done)) (by first | omega | (rw [hov _ rfl]; omega)) (by first | exact hfr | (rw [hov _ rfl]; exact hfr))) ?hk_20 (fun _ _ h => h.elim) ?hl_20
          case hk_20 =>
           rintro _ _ ⟨rfl, rfl⟩
           refine ⟨Zk (keep_nil), ?_⟩
           (refine lin_v (D' := 131071) 16 (p_indexAddr_nat underlying33 sizeOf74 Y Y ?_) ?_; (focus (first | omega | (rw [hov _ rfl]; omega))))
           refine Zz (l := [17]) ?_
           refine Zy 131071 262143 [3] [false] [] rfl Y rfl rfl rfl rfl (w_store_agg sizeOf74 Y Y (by (simp [Value.oneCell']; done)) (by repeat (first | exact Upd.here _ | apply Upd.there)) (by rfl) (by first | rfl | (simp; done)) (by first | omega | (rw [hov _ rfl]; omega)) (by first | exact hfr | (rw [hov _ rfl]; exact hfr))) ?hk_21 (fun _ _ h => h.elim) ?hl_21
           case hk_21 =>
            rintro _ _ ⟨rfl, rfl⟩
            refine ⟨keep_nil, ?_⟩
            refine lin_nil ?_
            refine Zn [2, 4, 6] ?_
            refine Zx <| at_draw (n := 18) (0 :: 1 :: 0 :: 4 :: 0 :: 0 :: 32 :: 0 :: 224 :: 480 :: 0 :: 1024 :: 3072 :: 7168 :: 16355 :: 32739 :: 65535 :: 131071 :: []) 163840 (by kernel_rfl) (by kernel_rfl) rfl ?_
            refine Zi 1 0 rfl (p_fieldAddr0 (off := 7) underlying37 rfl rfl sizeOf34 Y) <| Zj 3 1 rfl isAgg34 Y ?_
            refine Zi 7 2 rfl (p_fieldAddr0 (off := 7) underlying37 rfl rfl sizeOf34 Y) <| Zj 15 3 rfl isAgg34 Y ?_
            refine Zi 31 4 rfl (p_move Y) <| Zi 63 5 rfl (p_fieldAddr0 (off := 7) underlying37 rfl rfl sizeOf34 Y) <| Zj 127 6 rfl isAgg34 Y ?_
            refine Zi 255 7 rfl (p_move Y) ?_
            (refine lin_v (D' := 511) 8 (p_indexAddr_nat0 underlying34 sizeOf35 Y Y ?_) ?_; (focus (first | omega | (simp; omega))))
            refine Zj 1023 9 rfl isAgg35 Y (hv := by exact hcw) ?_
            refine Zi 2047 10 rfl (p_fieldAddr0 (off := 7) underlying37 rfl rfl sizeOf34 Y) <| Zj 4095 11 rfl isAgg34 Y ?_
            (refine lin_v (D' := 8191) 12 (p_indexAddr_nat0 (j := 0) underlying34 sizeOf35 Y Y ?_) ?_; (focus (first | omega | (simp; omega))))
            refine Zj 16383 13 rfl isAgg35 Y (hv := by exact hcu) ?_
            (refine lin_v (D' := 32767) 14 (p_indexAddr_nat0 (j := 0) underlying34 sizeOf35 Y Y ?_) ?_; (focus (first | omega | (simp; omega))))
            refine Zz (l := [15]) ?_
            refine Zy 32739 65535 [13, 11, 9, 6, 3, 1] [false, false, false, false, true, false] [(3, (_, _))] rfl Y rfl rfl rfl rfl (Zs sizeOf35 Y Y rfl (hi := by first | omega | (simp; omega)) (hz := by exact hfp)) ?hk_22 (fun _ _ h => h.elim) ?hl_22
            case hk_22 =>
             rintro _ _ ⟨rfl, rfl⟩
             refine ⟨Zk (keep_nil), ?_⟩
             (refine lin_v (D' := 131071) 16 (p_indexAddr_nat0 underlying34 sizeOf35 Y Y ?_) ?_; (focus (first | omega | (simp; omega))))
             refine Zz (l := [17]) ?_
             refine Zy 131071 262143 [3] [false] [] rfl Y rfl rfl rfl rfl (Zs sizeOf35 Y Y rfl (hi := by first | omega | (simp; omega)) (hz := by (rw [Array.size_setIfInBounds]; exact hfp))) ?hk_23 (fun _ _ h => h.elim) ?hl_23
             case hk_23 =>
              rintro _ _ ⟨rfl, rfl⟩
              refine ⟨keep_nil, ?_⟩
              refine lin_nil ?_
              refine Zn [2, 4] ?_
              refine nx_block_normal <| Zn [2, 4] ?_
              refine nx_cutB (e' := []) (H' := _) (by exact ⟨{ x with rows := (x.rows.set 0 y6).set (pickN b (max x.rows.length 1)) x6, paths := (x.paths.set 0 m6).set (pickN b (max x.rows.length 1)) l6 }, _, _, _, _, _, _, _, _, _, _, _, _, [], ⟨((dam_at6 (by omega)).trans (by rw [swap_at hx6 hy6, swap_at hl6 hm6])).symm, rpin_of (u := { x with rows := (x.rows.set 0 y6).set (pickN b (max x.rows.length 1)) x6, paths := (x.paths.set 0 m6).set (pickN b (max x.rows.length 1)) l6 }) (rowS_over (rowS_over hra1 (0 + 0 * 5) (rowCells [y6]) (by simp [rowCells_len]; omega)) (0 + (pickN b (max x.rows.length 1)) * 5) (rowCells [x6]) (by simp [rowCells_len]; omega)) (by rw [List.length_set, List.length_set]) (swap_cells (by omega) hkl y6 x6) (rowS_set (rowS_set hrb1 0 _) (pickN b (max x.rows.length 1)) _) ((hPS.set 0 hSw).set _ hSu) (hrd1) (rfl) (rfl) (by omega) (by omega) (by omega)⟩, rfl, rfl⟩)
             case hl_23 =>
              exact each_nil
            case hl_22 =>
             exact each_nil
           case hl_21 =>
            exact each_nil
          case hl_20 =>
           exact each_nil
         ·
          refine at_skip <| nx_block_normal <| Zn [2, 4] ?_
          refine nx_cutB (e' := []) (H' := _) (by exact ⟨x, _, _, _, _, _, _, _, _, _, _, _, _, [], ⟨(dam_no6 (by omega) (by omega) hw).symm, rpin_of (u := x) (hra1) (rfl) (rfl) (hrb1) (hPS) (hrd1) (rfl) (rfl) (by omega) (by omega) (by omega)⟩, rfl, rfl⟩)
        ·
         refine Zq <| Zg <| Zv (p_eql_nat (n := 7) Y Y) <| Za Y <| Z0 <| Zx ?_
         refine at_if Y (fun h7 => ?_) (fun h7 => ?_)
         ·
          refine Zq <| Zg <| Zm Y <| Zv (p_gtr_nat (n := 0) Y Y) <| Zm Y ?_
          refine ops_split (t := 149) Y rfl (fun hg7 => ?_) (fun hg7 => ?_)
          ·
           have hkl : (pickN b (max x.rows.length 1)) < x.rows.length := by omega
           obtain ⟨l7, hl7⟩ : ∃ r, x.paths[(pickN b (max x.rows.length 1))]? = some r := ⟨_, List.getElem?_eq_getElem (by omega)⟩
           have hpl7 := hPS.1
           obtain ⟨v7, hv7⟩ : ∃ r, pvs[(pickN b (max x.rows.length 1))]? = some r := ⟨_, List.getElem?_eq_getElem (by omega)⟩
           obtain ⟨gp, cp, curp, zp, hvp, rfl, hcp, hsp, hinp, hfp⟩ := rowS_open hrb1 (by omega)
           injection hvp with e1 _ e3
           subst e1 e3
           have hc7 := hinp _ _ hv7
           have hU7 := hPS.2 _ _ _ hv7 hl7
           obtain ⟨p7, cap7, rfl, hlm7, _⟩ := id hU7
           have hlb7 := hpp l7 (List.mem_of_getElem? hl7)
           refine Yf 7 underlying37 rfl rfl sizeOf34 Y <| Yl isAgg34 Y ?_
           refine Zf Y Y ?_
           (refine op_wg Y (p_indexAddr_nat0 underlying34 sizeOf35 Y Y ?_) rfl rfl ?_; (focus (first | omega | (simp; omega))))
           refine Yl isAgg35 Y (hv := by exact hc7) ?_
           refine Yg (p_len_slice underlying35 Y) <| Yg (p_gtr_nat (n := 0) Y Y) <| Zv (p_pick_t Y Y) <| Z0 <| Zn [2, 4, 6, 157] ?_
           refine Zx ?_
           refine at_if Y (fun hl0 => ?_) (fun hl0 => ?_)
           ·
            refine Zq <| at_draw (n := 12) (0 :: 1 :: 0 :: 0 :: 0 :: 16 :: 0 :: 112 :: 240 :: 504 :: 1023 :: 2047 :: []) 2568 (by kernel_rfl) (by kernel_rfl) rfl ?_
            refine Zi 1 0 rfl (p_fieldAddr0 (off := 7) underlying37 rfl rfl sizeOf34 Y) <| Zj 3 1 rfl isAgg34 Y ?_
            refine Zi 7 2 rfl (p_move Y) <| Zi 23 4 rfl (p_fieldAddr0 (off := 7) underlying37 rfl rfl sizeOf34 Y) <| Zj 55 5 rfl isAgg34 Y ?_
            refine Zi 119 6 rfl (p_move Y) ?_
            (refine lin_v (D' := 247) 7 (p_indexAddr_nat0 underlying34 sizeOf35 Y Y ?_) ?_; (focus (first | omega | (simp; omega))))
            refine Zj 503 8 rfl isAgg35 Y (hv := by exact hc7) ?_
            refine Zz (l := [3]) ?_
            refine Zy 0 511 [8, 5, 1] [true, true, true] [(8, (_, _)), (5, (_, _)), (1, (_, _))] rfl Y rfl rfl rfl rfl (w_buildSlice0 underlying35 sizeOf9) ?hk_26 (fun _ _ h => h.elim) ?hl_26
            case hk_26 =>
             rintro _ _ ⟨g7, rfl, rfl⟩
             refine ⟨Zk (Zk (Zk (keep_nil))), ?_⟩
             refine Zz (l := [9]) ?_
             refine Zy 504 1023 [8, 5, 1] [false, false, true] [(1, (_, _))] rfl Y rfl rfl rfl rfl (w_appendM (by_ := 16) (sz := 1) underlying35 (rfl : Tryz.prog.info? 9 = some Tryz.t9) rfl rfl rfl rfl Y (rowS_new 1 9 g7 0 [] rfl (by decide)) Y (strsU_cells hU7) (by rw [List.length_map]; omega) (by decide) (by repeat (first | exact One.here _ _ | apply One.there)) (by repeat (first | exact One.here _ _ | apply One.there)) (by exact strV_one _) (by omega) (by omega)) ?hk_27 (fun _ _ h => h.elim) ?hl_27
             case hk_27 =>
              rintro _ _ ⟨se7, hre7, rfl⟩
              refine ⟨Zk (keep_nil), ?_⟩
              replace hre7 := rowS_eq hre7 (Nat.zero_add _) (List.nil_append _)
              obtain ⟨g9, c9, cur9, z9, rfl, rfl, hc9, hs9, hin9, hf9⟩ := rowS_open hre7 (by omega)
              (refine lin_v (D' := 2047) 10 (p_indexAddr_nat0 underlying34 sizeOf35 Y Y ?_) ?_; (focus (first | omega | (simp; omega))))
              refine Zz (l := [11]) ?_
              refine Zy 2047 4095 [1] [false] [] rfl Y rfl rfl rfl rfl (Zs sizeOf35 Y Y rfl (hi := by first | omega | (simp; omega)) (hz := by exact hfp)) ?hk_28 (fun _ _ h => h.elim) ?hl_28
              case hk_28 =>
               rintro _ _ ⟨rfl, rfl⟩
               refine ⟨keep_nil, ?_⟩
               refine lin_nil ?_
               refine Zx <| at_draw (n := 8) (0 :: 1 :: 0 :: 7 :: 15 :: 0 :: 63 :: 127 :: []) 160 (by kernel_rfl) (by kernel_rfl) rfl ?_
               refine Zi 1 0 rfl (p_fieldAddr0 (off := 7) underlying37 rfl rfl sizeOf34 Y) <| Zj 3 1 rfl isAgg34 Y ?_
               refine Zi 7 2 rfl (p_move Y) ?_
               (refine lin_v (D' := 15) 3 (p_indexAddr_nat0 underlying34 sizeOf35 Y Y ?_) ?_; (focus (first | omega | (simp; omega))))
               refine Zj 31 4 rfl isAgg35 Y (hv := by exact set_get (by first | omega | (rw [Nat.mul_one]; omega))) ?_
               refine Zz (l := [5]) ?_
               refine Zy 0 63 [4, 1] [true, true] [(4, (_, _)), (1, (_, _))] rfl Y rfl rfl rfl rfl (Zu [_] Y call31 Y rfl (sum_str [120] (by simp) Tg zg)) ?hk_29 (fun _ _ h => h.elim) ?hl_29
               case hk_29 =>
                rintro _ _ ⟨rfl, rfl⟩
                refine ⟨Zk (Zk (keep_nil)), ?_⟩
                (refine lin_v (D' := 127) 6 (p_indexAddr_nat0 (j := 0) underlying35 sizeOf9 Y Y ?_) ?_; (focus (first | omega | (simp; omega))))
                refine Zz (l := [7]) ?_
                refine Zy 127 255 [4, 1] [false, false] [] rfl Y rfl rfl rfl rfl (Zs sizeOf9 Y Y rfl (hi := by first | omega | (simp; omega)) (hz := by exact hf9)) ?hk_30 (fun _ _ h => h.elim) ?hl_30
                case hk_30 =>
                 rintro _ _ ⟨rfl, rfl⟩
                 refine ⟨keep_nil, ?_⟩
                 refine lin_nil ?_
                 refine Zn [2, 4] ?_
                 refine nx_block_normal <| Zn [2, 4] ?_
                 refine nx_cutB (e' := []) (H' := _) (by exact ⟨{ x with paths := x.paths.set (pickN b (max x.rows.length 1)) (l7.set 0 (sha [120])) }, _, _, _, _, _, _, _, _, _, _, _, _, _, ⟨(dam_at7 (by omega) hl7).symm, rpin_of (u := { x with paths := x.paths.set (pickN b (max x.rows.length 1)) (l7.set 0 (sha [120])) }) (hra1) (rfl) (rfl) (rowS_set hrb1 (pickN b (max x.rows.length 1)) _) ((hPS.mono fun c h => List.mem_append_right _ h).set _ ((strsU_set hre7 (by omega) rfl _).mono fun c h => List.mem_append_left _ h)) (hrd1) (rfl) (rfl) (by omega) (by omega) (by omega)⟩, rfl, rfl⟩)
                case hl_30 =>
                 exact each_nil
               case hl_29 =>
                exact each_nil
              case hl_28 =>
               exact each_nil
             case hl_27 =>
              exact each_nil
            case hl_26 =>
             exact each_nil
           ·
            have he7 : x.rows.length = 0 ∨ x.paths[(pickN b (max x.rows.length 1))]? = some [] := by
              exact .inr (by rw [hl7, List.eq_nil_of_length_eq_zero (show l7.length = 0 by omega)])
            refine at_skip <| nx_block_normal <| Zn [2, 4] ?_
            refine nx_cutB (e' := []) (H' := _) (by exact ⟨x, _, _, _, _, _, _, _, _, _, _, _, _, [], ⟨(dam_no7 (by omega) hw (by first | exact he7 | exact .inl (by omega))).symm, rpin_of (u := x) (hra1) (rfl) (rfl) (hrb1) (hPS) (hrd1) (rfl) (rfl) (by omega) (by omega) (by omega)⟩, rfl, rfl⟩)
          ·
           refine op_skip Y rfl <| op_skip Y rfl <| op_skip Y rfl <| op_skip Y rfl <| op_skip Y rfl <| op_skip Y rfl <| op_skip Y rfl <| Zv (p_pick_f Y Y) <| Z0 <| Zn [2, 4, 6, 157] ?_
           refine Zx <| at_else Y <| at_skip <| nx_block_normal <| Zn [2, 4] ?_
           refine nx_cutB (e' := []) (H' := _) (by exact ⟨x, _, _, _, _, _, _, _, _, _, _, _, _, [], ⟨(dam_no7 (by omega) hw (by first | exact he7 | exact .inl (by omega))).symm, rpin_of (u := x) (hra1) (rfl) (rfl) (hrb1) (hPS) (hrd1) (rfl) (rfl) (by omega) (by omega) (by omega)⟩, rfl, rfl⟩)
         ·
          refine Zq <| Zg <| Zv (p_eql_nat (n := 8) Y Y) <| Za Y <| Z0 <| Zx ?_
          refine at_if Y (fun h8 => ?_) (fun h8 => ?_)
          ·
           obtain ⟨gt, ct, curt, zt, hvt, rfl, hct, hst, hint, hft⟩ := rowS_open hrd1 (by omega)
           injection hvt with e1 _ e3
           subst e1 e3
           refine at_draw (n := 11) (0 :: 1 :: 0 :: 4 :: 0 :: 16 :: 48 :: 124 :: 252 :: 511 :: 1023 :: []) 1408 (by kernel_rfl) (by kernel_rfl) rfl ?_
           refine Zi 1 0 rfl (p_fieldAddr0 (off := 8) underlying37 rfl rfl sizeOf35 Y) <| Zj 3 1 rfl isAgg35 Y ?_
           (refine lin_v (D' := 7) 2 (p_indexAddr_arr0 (j := 2) underlying47 sizeOf3 Y Y ?_) ?_; (focus (first | omega | (simp; omega))))
           refine Zj 15 3 rfl isAgg3 Y ?_
           refine Zi 31 4 rfl (p_fieldAddr0 (off := 8) underlying37 rfl rfl sizeOf35 Y) <| Zj 63 5 rfl isAgg35 Y ?_
           refine Zi 127 6 rfl (p_len_slice underlying35 Y) <| Zz (l := [7]) ?_
           refine Zy 124 255 [5, 3, 1] [false, false, true] [(1, (_, _))] rfl Y rfl rfl rfl rfl (Zu [_, _] Y call29 Y rfl (pick10 c x.roots.length (by omega) (by omega) hc1 hc2)) ?hk_34 (fun _ _ h => h.elim) ?hl_34
           case hk_34 =>
            rintro _ _ ⟨rfl, rfl⟩
            refine ⟨Zk (keep_nil), ?_⟩
            refine Zz (l := [8]) ?_
            refine Zy 252 511 [1] [true] [(1, (_, _))] rfl Y rfl rfl rfl rfl (Zu [_] Y call31 Y rfl (sum_str [121] (by simp) Tg zg)) ?hk_35 (fun _ _ h => h.elim) ?hl_35
            case hk_35 =>
             rintro _ _ ⟨rfl, rfl⟩
             refine ⟨Zk (keep_nil), ?_⟩
             (refine lin_v (D' := 1023) 9 (p_indexAddr_nat0 underlying35 sizeOf9 Y Y ?_) ?_; (focus (first | omega | (simp; omega))))
             refine Zz (l := [10]) ?_
             refine Zy 1023 2047 [1] [false] [] rfl Y rfl rfl rfl rfl (Zs sizeOf9 Y Y rfl (hi := by first | omega | (simp; omega)) (hz := by exact hft)) ?hk_36 (fun _ _ h => h.elim) ?hl_36
             case hk_36 =>
              rintro _ _ ⟨rfl, rfl⟩
              refine ⟨keep_nil, ?_⟩
              refine lin_nil ?_
              refine Zn [2, 4] ?_
              refine nx_block_normal <| Zn [2, 4] ?_
              refine nx_cutB (e' := []) (H' := _) (by exact ⟨{ x with roots := x.roots.set (pickN c x.roots.length) (sha [121]) }, _, _, _, _, _, _, _, _, _, _, _, _, [], ⟨(dam_at8 (by omega)).symm, rpin_of (u := { x with roots := x.roots.set (pickN c x.roots.length) (sha [121]) }) (hra1) (rfl) (rfl) (hrb1) (hPS) (rowS_set hrd1 (pickN c x.roots.length) (strV (sha [121]))) ((List.length_set ..).symm) ((List.map_set ..).symm) (by omega) (by omega) (by omega)⟩, rfl, rfl⟩)
             case hl_36 =>
              exact each_nil
            case hl_35 =>
             exact each_nil
           case hl_34 =>
            exact each_nil
          ·
           refine Zq <| Zg <| Zv (p_eql_nat (n := 9) Y Y) <| Za Y <| Z0 <| Zx ?_
           refine at_if Y (fun h9 => ?_) (fun h9 => ?_)
           ·
            refine Zg ?_
            (refine op_v (p_indexAddr_arr0 (j := 2) underlying47 sizeOf3 Y Y ?_) ?_; (focus (first | omega | decide | (simp; done))))
            refine Zl isAgg3 Y ?_
            refine Zr [_, _] Y call29 Y rfl (pick10 c 4 (by omega) (by omega) hc1 hc2) ?_
            rintro _ _ ⟨rfl, rfl⟩
            refine Zh 1 underlying37 rfl rfl sizeOf3 Y <| Ze (Zs sizeOf3 Y Y rfl (hi := by first | omega | decide | (simp; done))) ?_
            rintro _ _ ⟨rfl, rfl⟩
            refine Z0 <| Zn [2, 4] ?_
            refine nx_block_normal <| Zn [2, 4] ?_
            refine nx_cutB (e' := []) (H' := _) (by exact ⟨{ x with cl := (pickN c 4 : Int) }, _, _, _, _, _, _, _, _, _, _, _, _, [], ⟨(dam_at9 (by omega)).symm, rpin_of (u := { x with cl := (pickN c 4 : Int) }) (hra1) (rfl) (rfl) (hrb1) (hPS) (hrd1) (rfl) (rfl) (by omega) (by omega) (by omega)⟩, rfl, rfl⟩)
           ·
            refine Zq <| Zg <| Zv (p_eql_nat (n := 10) Y Y) <| Za Y <| Z0 <| Zx ?_
            refine at_if Y (fun h10 => ?_) (fun h10 => ?_)
            ·
             refine Zq <| Zg <| Zh 6 underlying37 rfl rfl sizeOf33 Y <| Ze (Zs sizeOf33 Y Y rfl) ?_
             rintro _ _ ⟨rfl, rfl⟩
             refine Z0 <| Zn [2, 4] ?_
             refine Zx <| Zq <| Zg <| Zh 7 underlying37 rfl rfl sizeOf34 Y <| Ze (Zs sizeOf34 Y Y rfl) ?_
             rintro _ _ ⟨rfl, rfl⟩
             refine Z0 <| Zx <| Zq <| Zg <| Zh 4 underlying37 rfl rfl sizeOf3 Y <| Ze (Zs sizeOf3 Y Y rfl) ?_
             rintro _ _ ⟨rfl, rfl⟩
             refine Z0 <| Zx <| Zg <| Zh 5 underlying37 rfl rfl sizeOf3 Y <| Ze (Zs sizeOf3 Y Y rfl) ?_
             rintro _ _ ⟨rfl, rfl⟩
             refine Z0 <| nx_block_normal <| Zn [2, 4] ?_
             refine nx_cutB (e' := []) (H' := _) (by exact ⟨{ x with rows := [], paths := [], ct := 0, fi := 0 }, _, _, _, _, _, _, _, _, _, _, _, _, [], ⟨(dam_at10 (by omega)).symm, rpin_of (u := { x with rows := [], paths := [], ct := 0, fi := 0 }) (rowS_nil 5 74) (rfl) (rfl) (rowS_nil 1 35) (paths_nil _) (hrd1) (rfl) (rfl) (by omega) (by omega) (by omega)⟩, rfl, rfl⟩)
            ·
             refine at_skip <| nx_block_normal <| Zn [2, 4] ?_
             refine nx_cutB (e' := []) (H' := _) (by exact ⟨x, _, _, _, _, _, _, _, _, _, _, _, _, [], ⟨(dam_at11 (by omega)).symm, rpin_of (u := x) (hra1) (rfl) (rfl) (hrb1) (hPS) (hrd1) (rfl) (rfl) (by omega) (by omega) (by omega)⟩, rfl, rfl⟩)
 case hy_1 =>
  rintro _ _ ⟨u, qa, qb, qc, na, nb, nc, ca, cb, cc, z1, z2, z3, z4, ⟨hu, hRP⟩, rfl, rfl⟩
  refine Zq <| Zg <| Zo (by repeat (first | exact Has.here _ | apply Has.there)) (p_load_agg (cs := #[_, _, _, _, _, _, _, _, _]) isAgg37 sizeOf37 Y (by first | omega | decide | (simp; done)) (by rfl)) ?_
  refine Ze (w_store_agg sizeOf37 Y Y (by simp [Value.oneCell', Value.cells]) (by repeat (first | exact Upd.here _ | apply Upd.there)) (by rfl) (by first | rfl | (simp; done)) (by first | omega | decide | (simp; done)) (by exact free_zero _)) ?_
  rintro _ _ ⟨rfl, rfl⟩
  refine Z0 <| Zx <| at_ret ?_
  refine nx_endc1 rfl results21 Y (by repeat (first | exact Has.here _ | apply Has.there)) (loadVar_agg isAgg37 sizeOf37 (by first | decide | exact Nat.le_refl _ | (simp; done) | (simp; omega)) (rfl)) (by exact ⟨z1, z2, z3, z4, hu ▸ hRP, rfl⟩)

end Go.Proofs.YtjeepldonhgohaaGreatDoor
