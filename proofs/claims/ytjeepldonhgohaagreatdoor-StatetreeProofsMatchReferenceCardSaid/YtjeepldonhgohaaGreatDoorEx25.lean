/- Walking by chunks: append of what lies in a memory that is read by membership, to an own slice whose elements are of several cells. No function of the program is named. -/
import Derived.Test.YtjeepldonhgohaaGreatDoorEx16
namespace Gw
open Go Go.RowKit
/-- The cells ys lie in the memory M, from p on. -/
def CellsM (M : List Chunk) (p : Option Addr) (ys : List Value) : Prop := ∀ (j : Nat) (u : Value), ys[j]? = some u → ∃ g o c T z, p = some ⟨g, o, none⟩ ∧ (g, Obj.cells c T z) ∈ M ∧ c[o + j]? = some u
theorem One.mem9 {s : List Chunk} {H R : Hp} (h : One s H R) : ∀ c ∈ s, c ∈ H.flatten := by
  intro c hc
  have := h.perm.mem_iff (a := c)
  rw [this]
  simp [hc]
section
variable {P : Program} {u : World} {env : Env} {H R R2 : Hp} {d : Option Nat} {ty : TypeId} {pos : String} {af : Array Edge} {g : Option (Nat × Bool)}
theorem w_appendM {x y : Operand} {t e : TypeId} {i : TypeInfo} {z : Value} {by_ sz n k c : Nat} {v : Value} {p : Option Addr} {xs ys : List Value} {s M : List Chunk}
    (ht : P.underlying t = some (.slice e)) (hi : P.info? e = some i) (hsz : i.size = sz) (hby : i.bytes = by_) (hzi : i.zero = some z) (hz1 : z.cells.size = sz)
    (hx : ∀ a, ev a env x = v) (hrow : RowS sz e v n xs s) (hy : ∀ a, ev a env y = .slice p k c) (hsrc : CellsM M p ys) (hl : ys.length = k * sz) (h0 : 0 < sz) (hone : One s H R) (htwo : One M R R2) (h1 : ∀ u ∈ ys, u.oneCell' = true)
    (h63 : n + k ≤ maxLen) (hb : (n + k) * by_ ≤ 140737488355328) :
    OpW P u ⟨d, .call ⟨.builtin .append, #[x, y], #[t, t]⟩, ty, pos, af, g⟩ env H (fun v' H1 => ∃ s', RowS sz e v' (n + k) (xs ++ ys) s' ∧ H1 = s' :: R) (fun _ _ => False) := by
  rcases Nat.eq_zero_or_pos k with hk | hk
  · subst hk
    have hy0 : ys = [] := List.eq_nil_of_length_eq_zero (by omega)
    subst hy0
    obtain ⟨b, c', rfl⟩ := hrow.form
    have hle : n ≤ c' := by
      obtain ⟨_, ⟨hv, h0, _⟩ | ⟨_, _, _, _, hv, _, h2, _⟩⟩ := hrow
      · omega
      · injection hv with _ _ hv3; omega
    intro a w hsat K Kp hK _
    have hs1 : Sat u (s :: R) w := hsat.perm (by simpa using hone.perm)
    have hl0 : (Builtin.firstCells i.size 0 (.slice p 0 c)).run P w = .ok #[] w := by
      cases p with
      | none => simp [Builtin.firstCells]
      | some ad => simp [Builtin.firstCells, loadCells, loadCellsFrom]
    have hr : (Builtin.append_ #[t, t] ty #[.slice b n c', .slice p 0 c]).run P w = .ok (.slice b n c') w := by
      rw [hsz] at hl0
      cases b with
      | none => simp [Builtin.append_, run_underlying ht, Go.sizeOf, typeInfo, hi, hsz, Builtin.lenOf, hle, hl0]
      | some ad => simp [Builtin.append_, run_underlying ht, Go.sizeOf, typeInfo, hi, hsz, Builtin.lenOf, hle, hl0, storeCells]
    have hx' : (execOp (ev a env) ⟨d, .call ⟨.builtin .append, #[x, y], #[t, t]⟩, ty, pos, af, g⟩).run P w = .ok (.value (.slice b n c')) w := by
      simp only [x_call, resolve, invoke, builtin, List.map_toArray, List.map_cons, List.map_nil, hx a, hy a, Sem.run_bind, Sem.run_pure, Result.andThen_ok, hr]
    rw [hx']
    exact hK _ _ _ ⟨s, by rw [List.append_nil]; exact hrow, rfl⟩ hs1
  · have hpos : 0 < ys.length := by rw [hl]; exact Nat.mul_pos hk h0
    obtain ⟨gb, o, _, _, _, rfl, _, _⟩ := hsrc 0 _ (List.getElem?_eq_getElem hpos)
    refine w_appendW ht hi hsz hby hzi hz1 hx hrow hy hone (fun w hs j v hj => ?_) hl h1 hk h63 hb
    obtain ⟨g', o', c1, T1, z1, e, hm, hc⟩ := hsrc j v hj
    injection e with e
    injection e with e1 e2
    subst e1 e2
    rw [add_addr]
    exact sat_cell (hs.get _ (htwo.mem9 _ hm)) hc
/-- append(l[:k], l[k+1:]...): element k is taken out, in place. -/
theorem w_append_shift {x y : Operand} {t e : TypeId} {i : TypeInfo} {sz n k m c d1 d2 : Nat} {b : Option Addr} {xs : List Value} {s : List Chunk}
    (ht : P.underlying t = some (.slice e)) (hi : P.info? e = some i) (hsz : i.size = sz) (hx : ∀ a, ev a env x = .slice b k c) (hrow : RowS sz e (.slice b n c) n xs s) (hkm : k + 1 + m = n)
    (hy : ∀ a, ev a env y = .slice (cutAt b (k + 1) d1 sz) m d2) (hd1 : d1 = c) (hone : One s H R) (h1 : ∀ u ∈ xs, u.oneCell' = true) :
    OpW P u ⟨d, .call ⟨.builtin .append, #[x, y], #[t, t]⟩, ty, pos, af, g⟩ env H (fun v' H1 => v' = .slice b (k + m) c ∧ ∃ s', RowS sz e (.slice b (k + m) c) (k + m) (xs.take (k * sz) ++ xs.drop ((k + 1) * sz)) s' ∧ H1 = s' :: R) (fun _ _ => False) := by
  subst hd1
  obtain ⟨hxl, ⟨_, h0, _⟩ | ⟨gb, cap, cur, zz, hv, rfl, hle, hcm, hcs, htk, hfr⟩⟩ := hrow
  · omega
  injection hv with hv1 _ hv3
  subst hv1 hv3
  intro a w hsat K Kp hK _
  have hs1 : Sat u ([(gb, .cells cur e zz)] :: R) w := hsat.perm (by simpa using hone.perm)
  have hg := hs1.get (gb, .cells cur e zz) (by simp)
  have e1 : k * sz + (1 * sz + m * sz) = n * sz := by rw [← Nat.add_mul, ← Nat.add_mul]; congr 1; omega
  have e2 : (k + 1) * sz = k * sz + 1 * sz := Nat.add_mul ..
  have e3 : (k + m) * sz = k * sz + m * sz := Nat.add_mul ..
  have e4 : n * sz ≤ d1 * sz := Nat.mul_le_mul_right sz hle
  have hl : (xs.drop ((k + 1) * sz)).length = m * sz := by rw [List.length_drop, hxl]; omega
  have hl' : (xs.drop ((k + 1) * sz)).length = m * i.size := by rw [hsz]; exact hl
  have hin : CellsIn cur 0 xs := by unfold CellsIn; rw [List.drop_zero, hxl]; exact htk
  have hf : (Builtin.firstCells sz m (.slice (cutAt (some ⟨gb, 0, none⟩) (k + 1) d1 sz) m d2)).run P w = .ok (xs.drop ((k + 1) * sz)).toArray w := by
    rcases Nat.eq_zero_or_pos m with hm | hm
    · subst hm
      have : xs.drop ((k + 1) * sz) = [] := List.eq_nil_of_length_eq_zero (by omega)
      rw [this]
      unfold cutAt
      split <;> simp [Builtin.firstCells, loadCells, loadCellsFrom]
    · have e5 : cutAt (some ⟨gb, 0, none⟩) (k + 1) d1 sz = some ⟨gb, 0 + (k + 1) * sz, none⟩ := by unfold cutAt; rw [if_neg (by omega), Option.map_some, add_addr]
      rw [e5]
      have h5 : CellsIn cur (0 + (k + 1) * sz) (xs.drop ((k + 1) * sz)) := by
        have := cells_part hin (a := (k + 1) * sz) (n := m * sz) (by omega)
        rwa [List.take_of_length_le (by omega)] at this
      have h6 := run_firstCells_some (P := P) w i.size m ⟨gb, 0 + (k + 1) * sz, none⟩ m d2 _ hl' (cells_at hg h5)
      rwa [hsz] at h6
  have hst := run_storeCells_free (P := P) gb (k * sz) e zz (xs.drop ((k + 1) * sz)) 0 cur w hg hfr (by rw [hl, hcs]; omega) (fun u hu => h1 u (List.mem_of_mem_drop hu))
  simp only [Nat.add_zero] at hst
  have hr : (Builtin.append_ #[t, t] ty #[.slice (some ⟨gb, 0, none⟩) k d1, .slice (cutAt (some ⟨gb, 0, none⟩) (k + 1) d1 sz) m d2]).run P w = .ok (.slice (some ⟨gb, 0, none⟩) (k + m) d1) (w.setRow gb (over cur (k * sz) (xs.drop ((k + 1) * sz)))) := by
    have hroom : k + m ≤ d1 := by omega
    simp [Builtin.append_, run_underlying ht, Go.sizeOf, typeInfo, hi, hsz, Builtin.lenOf, hroom, hf, add_addr, hst, over]
  have hx' : (execOp (ev a env) ⟨d, .call ⟨.builtin .append, #[x, y], #[t, t]⟩, ty, pos, af, g⟩).run P w = .ok (.value (.slice (some ⟨gb, 0, none⟩) (k + m) d1)) (w.setRow gb (over cur (k * sz) (xs.drop ((k + 1) * sz)))) := by
    simp only [x_call, resolve, invoke, builtin, List.map_toArray, List.map_cons, List.map_nil, hx a, hy a, Sem.run_bind, Sem.run_pure, Result.andThen_ok, hr]
  rw [hx']
  have hov : (over cur (k * sz) (xs.drop ((k + 1) * sz))).size = d1 * sz := by
    unfold over; simp only [List.size_toArray, List.length_append, List.length_take, List.length_drop, Array.length_toList, hcs, hxl]; omega
  have htk2 : cur.toList.take (k * sz) = xs.take (k * sz) := by rw [← htk, List.take_take, Nat.min_eq_left (by omega)]
  have hal : (xs.take (k * sz) ++ xs.drop ((k + 1) * sz)).length = (k + m) * sz := by rw [List.length_append, hl, List.length_take, hxl]; omega
  refine hK _ _ _ ⟨rfl, [(gb, .cells (over cur (k * sz) (xs.drop ((k + 1) * sz))) e zz)], ⟨hal, .inr ⟨gb, d1, _, zz, rfl, rfl, by omega, hcm, hov, ?_, by rw [hov, ← hcs]; exact hfr⟩⟩, rfl⟩
    (hs1.upd (.here _) rfl rfl rfl (setRow_heap w gb cur _ e zz hg) fun k hk => setRow_other w gb k _ hk)
  unfold over
  rw [htk2]
  exact List.take_left' hal
theorem rowS_set {sz : Nat} {e : TypeId} {g k cap : Nat} {cur : Array Value} {z : Nat × Nat} {xs : List Value} (h : RowS sz e (.slice (some ⟨g, 0, none⟩) k cap) k xs [(g, .cells cur e z)]) (i : Nat) (v : Value) : RowS sz e (.slice (some ⟨g, 0, none⟩) k cap) k (xs.set i v) [(g, .cells (cur.setIfInBounds i v) e z)] := by
  obtain ⟨hl, ⟨h0, _⟩ | ⟨g', cap', cur', z', hv, hs, hle, hcm, hcs, htk, hfr⟩⟩ := h
  · cases h0
  · injection hv with hv1 _ hv3
    injection hv1 with hv1
    injection hv1 with hv1
    subst hv3
    simp only [List.cons.injEq, Prod.mk.injEq, Obj.cells.injEq, and_true, true_and] at hs
    obtain ⟨hs1, hs2, hs3⟩ := hs
    subst hs1 hs2 hs3
    refine ⟨by rw [List.length_set]; exact hl, .inr ⟨g, cap, _, z, rfl, rfl, hle, hcm, by rw [Array.size_setIfInBounds]; exact hcs, ?_, by rw [Array.size_setIfInBounds]; exact hfr⟩⟩
    rw [Array.toList_setIfInBounds, ← htk, List.take_set]
end
end Gw
