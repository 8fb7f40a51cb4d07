/- The comparator of chosen, to the world. -/
/- What the sort does with it. -/
/- Walking by chunks: rows and lists of six numbers compared. No function of the program is named. -/
import Derived.Test.YtcbjoojdfelgaaaGreatDoorEz
import Derived.Test.YtcbjoojdfelgaaaGreatDoorKs10
import Derived.Test.YtcbjoojdfelgaaaGreatDoorLin2
import Derived.Test.YtcbjoojdfelgaaaGreatDoorEx21
import Derived.Shelf.SlSortCmp.NoneTotal
import Derived.Test.YtcbjoojdfelgaaaGreatDoorEx14

namespace Go.Proofs.YtcbjoojdfelgaaaGreatDoor
open Go.Proofs.Tryz
open Go Go.RowKit Gw
set_option linter.unusedVariables false
set_option linter.unusedSimpArgs false
set_option maxRecDepth 100000
attribute [local irreducible] Gw.At Gw.Nx Gw.Ops
open Go.Sort Go.Shelf
attribute [local go_sem] Gl.evalE Gl.lookE Gl.linUpon Gl.wantedE Gl.yieldE Gl.putE
def cmpR (c : Nat) (a b : RowM) : Int := orL (Lib.compareInt (valL a (c : Int)) (valL b (c : Int))) (Lib.compareInt a.k b.k)
/-- The world, n blocks and some draws on. -/
def Stg (W : World) (n : Nat) (w : World) : Prop := ∃ q os, os.size = n ∧ w = grow (W.drewN q) os
theorem stg_new (W : World) : Stg W 0 W := ⟨0, #[], rfl, by simp [World.drewN]⟩
theorem stg_drew {W w : World} {n : Nat} (h : Stg W n w) : Stg W n w.drew := by
  obtain ⟨q, os, rfl, rfl⟩ := h
  exact ⟨q + 1, os, rfl, rfl⟩
theorem stg_more {W w : World} {n : Nat} (h : Stg W n w) (q' : Nat) (os' : Array Obj) : Stg W (n + os'.size) (grow (w.drewN q') os') := by
  obtain ⟨q, os, rfl, rfl⟩ := h
  refine ⟨q + q', os ++ os', by simp, ?_⟩
  simp [grow, World.drewN, Array.append_assoc, Nat.add_assoc]
theorem stg_heap {W w : World} {n b : Nat} {o : Obj} (h : Stg W n w) (hb : W.heap[b]? = some o) : w.heap[b]? = some o := by
  obtain ⟨q, os, rfl, rfl⟩ := h
  have hlt := (Array.getElem?_eq_some_iff.1 hb).1
  show (W.heap ++ os)[b]? = _
  rw [Array.getElem?_append_left hlt]; exact hb
theorem stg_size {W w : World} {n : Nat} (h : Stg W n w) : w.heap.size = W.heap.size + n := by
  obtain ⟨q, os, rfl, rfl⟩ := h
  show (W.heap ++ os).size = _
  simp
theorem alloc_get (w : World) (o : Obj) : (w.alloc o).heap[w.heap.size]? = some o := by
  show (w.heap.push o)[w.heap.size]? = some o
  exact Array.getElem?_push_size
theorem alloc_size (w : World) (o : Obj) : (w.alloc o).heap.size = w.heap.size + 1 := Array.size_push _
def stgN : Nat → Nat
  | 0 => 0 | 1 => 1 | 2 => 2 | 3 => 2 | 4 => 2 | 5 => 3 | _ => 3
def StgC (W : World) (T : Nat) (x y : Int) (k : Nat) (w : World) : Prop := Stg W (stgN k) w ∧ (5 ≤ k → w.heap[W.heap.size + 2]? = some (.cells #[.int .i64 x, .int .i64 y] T (0, 0)))
set_option maxHeartbeats 2000000 in
theorem cmp_calls (a b : RowM) (c : Nat) (hc : c ≤ 3) (cb : Nat) (W : World) (hcb : W.heap[cb]? = some (.cells #[.int .i64 (c : Int)] 3 (0, 0))) : Calls Tryz.prog 95 #[.agg #[.int .i64 a.t, .int .i64 a.k, .int .i64 a.v.a, .int .i64 a.v.b, .int .i64 a.v.c], .agg #[.int .i64 b.t, .int .i64 b.k, .int .i64 b.v.a, .int .i64 b.v.b, .int .i64 b.v.c], .pointer (some ⟨cb, 0, none⟩)] W fun e w' => e = .returned (.int .i64 (cmpR c a b)) ∧ ∃ q os', w' = grow (W.drewN q) os' := by
  have hlt := (Array.getElem?_eq_some_iff.1 hcb).1
  go_enter func95, ntmps95
  go_wp2
  generalize hW2 : (W.alloc _).alloc _ = W2
  have hS0 : Stg W 2 W2 := by
    rw [← hW2, alloc_eq_grow, alloc_eq_grow, grow_grow]
    exact ⟨0, _, rfl, rfl⟩
  have hS1 : Stg (W.alloc (.cells #[.int .i64 a.t, .int .i64 a.k, .int .i64 a.v.a, .int .i64 a.v.b, .int .i64 a.v.c] 60 (0, 0))) 1 W2 := by
    rw [← hW2, alloc_eq_grow _ (.cells #[.int .i64 b.t, .int .i64 b.k, .int .i64 b.v.a, .int .i64 b.v.b, .int .i64 b.v.c] 60 (0, 0))]
    exact ⟨0, _, rfl, rfl⟩
  have hA := stg_heap hS1 (alloc_get _ _)
  have hB : W2.heap[W.heap.size + 1]? = some (.cells #[.int .i64 b.t, .int .i64 b.k, .int .i64 b.v.a, .int .i64 b.v.b, .int .i64 b.v.c] 60 (0, 0)) := by
    rw [← hW2, ← alloc_size W (.cells #[.int .i64 a.t, .int .i64 a.k, .int .i64 a.v.a, .int .i64 a.v.b, .int .i64 a.v.c] 60 (0, 0))]
    exact alloc_get _ _
  have hC := stg_heap hS0 hcb
  refine Gl.wp_region_lin [false, false, true, false, false, true, true, false, false, false, false, true, true, true, false] (StgC W2 3 (Lib.compareInt (valL a (c : Int)) (valL b (c : Int))) (Lib.compareInt a.k b.k)) 20 rfl (by kernel_rfl) (by kernel_rfl) ⟨stg_drew (stg_new W2), fun h => absurd h (by decide)⟩ ?_
  intro fr hfr
  have HFR := Lib.hid hfr
  have e2 : fr.tmps.getD 2 undef = .pointer (some ⟨cb, 0, none⟩) := by rw [hfr]; rfl
  have e3 : fr.tmps.getD 3 undef = .pointer (some ⟨W.heap.size, 0, none⟩) := by rw [hfr]; rfl
  have e4 : fr.tmps.getD 4 undef = .pointer (some ⟨W.heap.size + 1, 0, none⟩) := by rw [hfr]; rfl
  clear hfr
  apply Gl.wpLin_keep
  · intro j wj hj K hK
    have hb := stg_heap hj.1 hA
    have c0 := sat_cell (i := 0) hb rfl
    have c1 := sat_cell (i := 1) hb rfl
    have c2 := sat_cell (i := 2) hb rfl
    have c3 := sat_cell (i := 3) hb rfl
    have c4 := sat_cell (i := 4) hb rfl
    go_simp
    exact hK _ hj
  apply Gl.wpLin_keep
  · intro j wj hj K hK
    have c0 := sat_cell (i := 0) (stg_heap hj.1 hC) rfl
    go_simp
    exact hK _ hj
  apply Gl.wpLin_move
  · intro wj hj K hK
    go_simp
    exact (value_calls a (c : Int) (by omega) _).mono (by
      rintro e w' ⟨rfl, q, o, rfl⟩
      exact ⟨_, rfl, hK _ ⟨stg_more hj.1 q #[o], fun h => absurd h (by decide)⟩⟩)
  apply Gl.wpLin_keep
  · intro j wj hj K hK
    have hb := stg_heap hj.1 hB
    have c0 := sat_cell (i := 0) hb rfl
    have c1 := sat_cell (i := 1) hb rfl
    have c2 := sat_cell (i := 2) hb rfl
    have c3 := sat_cell (i := 3) hb rfl
    have c4 := sat_cell (i := 4) hb rfl
    go_simp
    exact hK _ hj
  apply Gl.wpLin_keep
  · intro j wj hj K hK
    have c0 := sat_cell (i := 0) (stg_heap hj.1 hC) rfl
    go_simp
    exact hK _ hj
  apply Gl.wpLin_move
  · intro wj hj K hK
    go_simp
    exact (value_calls b (c : Int) (by omega) _).mono (by
      rintro e w' ⟨rfl, q, o, rfl⟩
      exact ⟨_, rfl, hK _ ⟨stg_more hj.1 q #[o], fun h => absurd h (by decide)⟩⟩)
  apply Gl.wpLin_move
  · intro wj hj K hK
    go_simp
    exact (Tryz.cmp_Compare_int _ _ _).mono (by
      rintro e w' ⟨rfl, rfl⟩
      exact ⟨_, rfl, hK _ ⟨hj.1, fun h => absurd h (by decide)⟩⟩)
  apply Gl.wpLin_keep
  · intro j wj hj K hK
    go_simp
    exact hK _ hj
  apply Gl.wpLin_keep
  · intro j wj hj K hK
    have c1 := sat_cell (i := 1) (stg_heap hj.1 hA) rfl
    go_simp
    exact hK _ hj
  apply Gl.wpLin_keep
  · intro j wj hj K hK
    go_simp
    exact hK _ hj
  apply Gl.wpLin_keep
  · intro j wj hj K hK
    have c1 := sat_cell (i := 1) (stg_heap hj.1 hB) rfl
    go_simp
    exact hK _ hj
  apply Gl.wpLin_move
  · intro wj hj K hK
    go_simp
    exact (Tryz.cmp_Compare_int _ _ _).mono (by
      rintro e w' ⟨rfl, rfl⟩
      exact ⟨_, rfl, hK _ ⟨hj.1, fun h => absurd h (by decide)⟩⟩)
  apply Gl.wpLin_move (v := .slice (some ⟨W2.heap.size + 2, 0, none⟩) 2 2)
  · intro wj hj K hK
    have hz := stg_size hj.1
    change wj.heap.size = W2.heap.size + 2 at hz
    go_simp
    have h := hK _ ⟨stg_more hj.1 0 #[.cells #[.int .i64 (Lib.compareInt (valL a (c : Int)) (valL b (c : Int))), .int .i64 (Lib.compareInt a.k b.k)] 3 (0, 0)], fun _ => ?_⟩
    · rw [alloc_eq_grow]
      exact h
    · rw [← hz]
      exact alloc_get wj _
  apply Gl.wpLin_move
  · intro wj hj K hK
    have hb := hj.2 (by decide)
    go_simp
    exact (or_calls _ _ _ _ (sat_cell (i := 0) hb rfl) (sat_cell (i := 1) hb rfl)).mono (by
      rintro e w' ⟨rfl, rfl⟩
      exact ⟨_, rfl, hK _ ⟨hj.1, fun _ => hb⟩⟩)
  apply Gl.wpLin_keep
  · intro j wj hj K hK
    go_simp
    exact hK _ hj
  apply Gl.wpLin_done
  intro wz hz
  rw [HFR.out]
  simp only [Gl.putE, Gl.putsE, Act.put, List.setIfInBounds_toArray, List.set_cons_zero, List.set_cons_succ]
  obtain ⟨⟨q, os, -, rfl⟩, -⟩ := hz
  clear HFR
  go_wp2
  go_ret
  obtain ⟨q', os', -, h⟩ := stg_more hS0 q os
  exact ⟨rfl, q', os', h⟩

end Go.Proofs.YtcbjoojdfelgaaaGreatDoor


namespace Go.Proofs.YtcbjoojdfelgaaaGreatDoor
open Go.Proofs.Tryz
open Go Go.RowKit Gw
set_option linter.unusedVariables false
set_option linter.unusedSimpArgs false
set_option maxRecDepth 100000
attribute [local irreducible] Gw.At Gw.Nx Gw.Ops
open Go.Sort Go.Shelf
instance : Inhabited RowM := ⟨⟨0, 0, ⟨0, 0, 0⟩⟩⟩
def encR (r : RowM) : List Value := [.int .i64 r.t, .int .i64 r.k, .int .i64 r.v.a, .int .i64 r.v.b, .int .i64 r.v.c]
theorem ltR (c : Nat) (a b : RowM) : ltOf (cmpR c) a b = decide (valL a (c : Int) < valL b (c : Int) ∨ valL a (c : Int) = valL b (c : Int) ∧ a.k < b.k) := by
  unfold ltOf cmpR orL Lib.compareInt
  have h1 := Int.lt_trichotomy (valL a (c : Int)) (valL b (c : Int))
  have h2 := Int.lt_trichotomy a.k b.k
  generalize valL a (c : Int) = x at *
  generalize valL b (c : Int) = y at *
  apply decide_eq_decide.2
  split <;> split <;> (try split) <;> (try split) <;> omega
theorem swoR (c : Nat) : SWO (ltOf (cmpR c)) where
  irrefl x := by rw [ltR]; simp
  trans x y z h1 h2 := by rw [ltR] at *; simp only [decide_eq_true_eq] at *; omega
  ntrans x y z h1 h2 := by rw [ltR] at *; simp only [decide_eq_false_iff_not] at *; omega
theorem sort_ok : SortOk := by
  intro cb c w o s hc hn hro
  obtain ⟨hlen, ⟨rfl, h0, rfl⟩ | ⟨g, cap, cur, z, rfl, rfl, hle, hcm, hcs, htk, hfr⟩⟩ := hro
  · intro u R w0 hs
    have ho : o = [] := List.eq_nil_of_length_eq_zero h0
    subst ho
    have hN := AnyF.slices_SortFunc_none Tryz.sortRow none 0 (.func (.func 95) #[] #[.pointer (some ⟨cb, 0, none⟩)]) w0
    exact hN.mono (by
      rintro e w' ⟨rfl, rfl⟩
      exact .inl ⟨_, _, rfl, ⟨rfl, [], [], .refl _, .nil, rowS_nil _ _, rfl⟩, hs⟩)
  · intro u R w0 hs
    have hb := hs.get (g, .cells cur 60 z) (by simp)
    have hcb := hs.get (cb, .cells #[.int .i64 (c : Int)] 3 (0, 0)) (by simp)
    have hne : g ≠ cb := by
      have := hs.nodup
      simp at this
      exact this.1.1
    have hH := holds_rowK (w := w0) (g := g) (cur := cur) (e := 60) (z := z) encR 5 (fun _=>rfl) o hb (by rw [hcs]; omega) hfr htk
    have eg : ∀ (args : Array Value) (w : World), (callFunc 95 args).run Tryz.prog w = .ok (.enter 95 args) w := enters_of func95 (by kernel_rfl) rfl
    have hcmp : CmpLays Tryz.prog 95 #[.pointer (some ⟨cb, 0, none⟩)] encR 5 (cmpR c) g 0 o.toArray.size w0 := by
      intro m os dk hsz x y
      refine cmp_calls x y c hc cb _ ?_
      have hlt := hs.lt (p := (cb, .cells #[.int .i64 (c : Int)] 3 (0, 0))) (by simp)
      rw [sortWorldK_other encR 5 w0 g m cb dk os hne hlt]
      exact hcb
    have hcon := AnyQ.slices_SortFunc Tryz.sortRow 5 isAgg60 sizeOf60 encR (fun _=>rfl) (fun x v hv => by simp [encR] at hv; rcases hv with rfl | rfl | rfl | rfl | rfl <;> rfl) (cmpR c) (swoR c) 95 #[.pointer (some ⟨cb, 0, none⟩)] g 0 cap o.toArray w0 eg hcmp hH (hs.lt (p := (g, .cells cur 60 z)) (by simp)) (by simp; omega)
    refine hcon.mono ?_
    rintro e w' ⟨rfl, d', n, os, ⟨hds, -, hpm⟩, hso, rfl⟩
    have hds' : d'.size = o.length := by simpa using hds
    have hF : (flatK encR 5 d').toList = rowCells d'.toList := flatK_list encR 5 (fun _=>rfl) d'.toList
    have hFs : (flatK encR 5 d').size = o.length * 5 := by rw [size_flatK, hds']
    have hpm2 : d'.toList.Perm o := by
      have e1 : d'.extract 0 o.toArray.size = d' := by
        rw [show o.toArray.size = d'.size by rw [hds'] ; simp]
        exact Array.extract_size
      rw [e1] at hpm
      simpa using hpm
    have hpl : d'.toList.length = o.length := hpm2.length_eq
    refine .inl ⟨_, [[(g, .cells (putCells id 0 (flatK encR 5 d') cur) 60 z)], [(cb, .cells #[.int .i64 (c : Int)] 3 (0, 0))]], rfl, ⟨rfl, _, d'.toList, hpm2, ?_, ?_, rfl⟩, hs.sortedK encR d' os⟩
    · rw [List.pairwise_iff_getElem]
      intro i j hi hj hij
      have h := hso i j (Nat.zero_le _) hij (by simp; omega)
      rw [ltR] at h
      simp only [decide_eq_false_iff_not] at h
      rw [getElem!_pos d' i (by simpa using hi), getElem!_pos d' j (by simpa using hj)] at h
      rw [valL_N _ c hc, valL_N _ c hc] at h
      unfold leV
      simp only [Array.getElem_toList]
      omega
    · rw [hpl]
      refine ⟨by rw [rowCells_len, hpl], .inr ⟨g, cap, _, z, rfl, rfl, hle, hcm, by rw [put_sizeK]; exact hcs, ?_, by rw [put_sizeK]; exact hfr⟩⟩
      have h := put_takeK cur (flatK encR 5 d') (by rw [hFs, hcs]; omega)
      rw [hFs, hF] at h
      exact h

end Go.Proofs.YtcbjoojdfelgaaaGreatDoor


namespace Gw
open Go Go.RowKit
section
variable {P : Program} {u : World} {env : Env} {H R : Hp} {d : Option Nat} {ty : TypeId} {pos : String} {af : Array Edge} {g : Option (Nat × Bool)}
/-- Two rows are the same. -/
def RowEq (t1 t2 k1 k2 : Int) (x y : V3) : Prop := t1 = t2 ∧ k1 = k2 ∧ x = y
instance (t1 t2 k1 k2 : Int) (x y : V3) : Decidable (RowEq t1 t2 k1 k2 x y) := inferInstanceAs (Decidable (_ ∧ _ ∧ _))
theorem eq_row {t e ta : TypeId} {f0 f1 f2 : Field} (w : World) (n : Nat) (t1 t2 k1 k2 : Int) (x y : V3) (hu : P.underlying t = some (.struct #[f0, f1, f2])) (hst : P.stoodInHeld t = false)
    (h0 : f0.name ≠ "_" ∧ f0.type = e ∧ f0.offset = 0) (h1 : f1.name ≠ "_" ∧ f1.type = e ∧ f1.offset = 1) (h2 : f2.name ≠ "_" ∧ f2.type = ta ∧ f2.offset = 2)
    (he : P.underlying e = some (.int .i64)) (hta : P.underlying ta = some (.array 3 e)) (ha : ∀ w : World, (isAgg e).run P w = .ok false w) (hs : ∀ w : World, (Go.sizeOf e).run P w = .ok 1 w)
    (haa : ∀ w : World, (isAgg ta).run P w = .ok true w) (hsa : ∀ w : World, (Go.sizeOf ta).run P w = .ok 3 w) :
    (Op.equalIn (n + 3) t (.agg #[.int .i64 t1, .int .i64 k1, .int .i64 x.a, .int .i64 x.b, .int .i64 x.c]) (.agg #[.int .i64 t2, .int .i64 k2, .int .i64 y.a, .int .i64 y.b, .int .i64 y.c])).run P w = .ok (decide (RowEq t1 t2 k1 k2 x y)) w := by
  obtain ⟨n0, e0, o0⟩ := h0
  obtain ⟨n1, e1, o1⟩ := h1
  obtain ⟨n2, e2, o2⟩ := h2
  have ei : ∀ (m k : Int) (w : World), (Op.equalIn (n + 2) e (.int .i64 m) (.int .i64 k)).run P w = .ok (decide (m = k)) w := fun m k w => eq_int1 (n + 1) w he m k
  have ea : ∀ (w : World), (Op.equalIn (n + 2) ta (.agg #[.int .i64 x.a, .int .i64 x.b, .int .i64 x.c]) (.agg #[.int .i64 y.a, .int .i64 y.b, .int .i64 y.c])).run P w = .ok (decide (x = y)) w := fun w => eq_arr3 w n x y hta he ha hs
  have p0 : ∀ (v0 v1 v2 v3 v4 : Value) (w : World), (part e #[v0, v1, v2, v3, v4] 0).run P w = .ok v0 w := fun _ _ _ _ _ w => part_int1 w (ha w) _ _ rfl
  have p1 : ∀ (v0 v1 v2 v3 v4 : Value) (w : World), (part e #[v0, v1, v2, v3, v4] 1).run P w = .ok v1 w := fun _ _ _ _ _ w => part_int1 w (ha w) _ _ rfl
  have p2 : ∀ (v0 v1 v2 v3 v4 : Value) (w : World), (part ta #[v0, v1, v2, v3, v4] 2).run P w = .ok (.agg #[v2, v3, v4]) w := fun _ _ _ _ _ w => by simp [part, haa, hsa]
  rw [show n + 3 = (n + 2) + 1 from rfl, Op.equalIn]
  generalize n + 2 = m at *
  simp only [Sem.run_bind, run_underlying hu, Result.andThen_ok, run_program, hst, Bool.false_eq_true, if_false]
  rw [← Array.forIn_toList]
  simp only [List.forIn_cons, List.forIn_nil, n0, n1, n2, e0, e1, e2, o0, o1, o2, ne_eq, not_false_eq_true, if_true]
  simp only [Sem.run_bind, p0, p1, p2, ei, ea, Result.andThen_ok]
  have hd : decide (RowEq t1 t2 k1 k2 x y) = (decide (t1 = t2) && (decide (k1 = k2) && decide (x = y))) := by
    by_cases h : RowEq t1 t2 k1 k2 x y
    · rw [decide_eq_true h, decide_eq_true h.1, decide_eq_true h.2.1, decide_eq_true h.2.2]; rfl
    · rw [decide_eq_false h]
      by_cases c1 : t1 = t2 <;> by_cases c2 : k1 = k2 <;> by_cases c3 : x = y <;> simp [c1, c2, c3]
      exact h ⟨c1, c2, c3⟩
  rw [hd]
  generalize decide (x = y) = b3 at *
  by_cases c1 : t1 = t2 <;> by_cases c2 : k1 = k2 <;> cases b3 <;> simp [c1, c2, p0, p1, p2, ei, ea, n1, n2]
section
variable {t yt e ta : TypeId} {f0 f1 f2 : Field} {x y : Operand} {t1 t2 k1 k2 : Int} {p q : V3}
theorem p_neq_row (hg : P.eqGuardType P.depth t = false) (hu : P.underlying t = some (.struct #[f0, f1, f2])) (hst : P.stoodInHeld t = false)
    (h0 : f0.name ≠ "_" ∧ f0.type = e ∧ f0.offset = 0) (h1 : f1.name ≠ "_" ∧ f1.type = e ∧ f1.offset = 1) (h2 : f2.name ≠ "_" ∧ f2.type = ta ∧ f2.offset = 2)
    (he : P.underlying e = some (.int .i64)) (hta : P.underlying ta = some (.array 3 e)) (ha : ∀ w : World, (isAgg e).run P w = .ok false w) (hs : ∀ w : World, (Go.sizeOf e).run P w = .ok 1 w)
    (haa : ∀ w : World, (isAgg ta).run P w = .ok true w) (hsa : ∀ w : World, (Go.sizeOf ta).run P w = .ok 3 w)
    (hx : ∀ a, ev a env x = .agg #[.int .i64 t1, .int .i64 k1, .int .i64 p.a, .int .i64 p.b, .int .i64 p.c]) (hy : ∀ a, ev a env y = .agg #[.int .i64 t2, .int .i64 k2, .int .i64 q.a, .int .i64 q.b, .int .i64 q.c]) : OpP P ⟨d, .binOp .neq t x y yt, ty, pos, af, g⟩ env [] (.bool (decide (¬ RowEq t1 t2 k1 k2 p q))) := fun a w _ => by
  simp [x_binOp, hx a, hy a, go_sem, run_eqGuard_agg w _ t _ _ _ _ hg, bin_neq_agg, Op.equal, Op.maxDepth, eq_row w 9997 t1 t2 k1 k2 p q hu hst h0 h1 h2 he hta ha hs haa hsa]
end
/-- Six numbers compared. -/
theorem eq_arr6 {t e : TypeId} (w : World) (n : Nat) (x0 x1 x2 x3 x4 x5 y0 y1 y2 y3 y4 y5 : Int) (hu : P.underlying t = some (.array 6 e)) (he : P.underlying e = some (.int .i64)) (ha : ∀ w : World, (isAgg e).run P w = .ok false w) (hs : ∀ w : World, (Go.sizeOf e).run P w = .ok 1 w) :
    (Op.equalIn (n + 2) t (.agg #[.int .i64 x0, .int .i64 x1, .int .i64 x2, .int .i64 x3, .int .i64 x4, .int .i64 x5]) (.agg #[.int .i64 y0, .int .i64 y1, .int .i64 y2, .int .i64 y3, .int .i64 y4, .int .i64 y5])).run P w = .ok (decide (x0 = y0 ∧ x1 = y1 ∧ x2 = y2 ∧ x3 = y3 ∧ x4 = y4 ∧ x5 = y5)) w := by
  have ei : ∀ (m k : Int) (w : World), (Op.equalIn (n + 1) e (.int .i64 m) (.int .i64 k)).run P w = .ok (decide (m = k)) w := fun m k w => eq_int1 n w he m k
  have pt : ∀ (vs : Array Value) (j : Nat) (v : Value) (w : World), vs[j]? = some v → (part e vs j).run P w = .ok v w := fun vs j v w h => part_int1 w (ha w) _ _ h
  have p0 : ∀ (v0 v1 v2 v3 v4 v5 : Value) (w : World), (part e #[v0, v1, v2, v3, v4, v5] 0).run P w = .ok v0 w := fun _ _ _ _ _ _ w => pt _ _ _ w rfl
  have p1 : ∀ (v0 v1 v2 v3 v4 v5 : Value) (w : World), (part e #[v0, v1, v2, v3, v4, v5] 1).run P w = .ok v1 w := fun _ _ _ _ _ _ w => pt _ _ _ w rfl
  have p2 : ∀ (v0 v1 v2 v3 v4 v5 : Value) (w : World), (part e #[v0, v1, v2, v3, v4, v5] 2).run P w = .ok v2 w := fun _ _ _ _ _ _ w => pt _ _ _ w rfl
  have p3 : ∀ (v0 v1 v2 v3 v4 v5 : Value) (w : World), (part e #[v0, v1, v2, v3, v4, v5] 3).run P w = .ok v3 w := fun _ _ _ _ _ _ w => pt _ _ _ w rfl
  have p4 : ∀ (v0 v1 v2 v3 v4 v5 : Value) (w : World), (part e #[v0, v1, v2, v3, v4, v5] 4).run P w = .ok v4 w := fun _ _ _ _ _ _ w => pt _ _ _ w rfl
  have p5 : ∀ (v0 v1 v2 v3 v4 v5 : Value) (w : World), (part e #[v0, v1, v2, v3, v4, v5] 5).run P w = .ok v5 w := fun _ _ _ _ _ _ w => pt _ _ _ w rfl
  rw [show n + 2 = (n + 1) + 1 from rfl, Op.equalIn]
  generalize n + 1 = m at *
  simp only [Sem.run_bind, run_underlying hu, Result.andThen_ok, hs]
  simp only [Std.Legacy.Range.forIn_eq_forIn_range', Std.Legacy.Range.size, Nat.sub_zero, Nat.add_sub_cancel, Nat.div_one, List.range'_succ, List.range'_zero, List.forIn_cons, List.forIn_nil]
  simp only [Sem.run_bind, p0, p1, p2, p3, p4, p5, ei, Result.andThen_ok, Nat.zero_add, Nat.mul_one, Nat.one_mul, Nat.zero_mul]
  by_cases h0 : x0 = y0
  · by_cases h1 : x1 = y1
    · by_cases h2 : x2 = y2
      · by_cases h3 : x3 = y3
        · by_cases h4 : x4 = y4
          · by_cases h5 : x5 = y5 <;> simp [h0, h1, h2, h3, h4, h5, p0, p1, p2, p3, p4, p5, ei]
          · simp [h0, h1, h2, h3, h4, p0, p1, p2, p3, p4, p5, ei]
        · simp [h0, h1, h2, h3, p0, p1, p2, p3, p4, p5, ei]
      · simp [h0, h1, h2, p0, p1, p2, p3, p4, p5, ei]
    · simp [h0, h1, p0, p1, p2, p3, p4, p5, ei]
  · simp [h0, p0, p1, p2, p3, p4, p5, ei]
theorem p_eql_arr6 {t yt e : TypeId} {x y : Operand} {x0 x1 x2 x3 x4 x5 y0 y1 y2 y3 y4 y5 : Int} (hg : P.eqGuardType P.depth t = false) (hu : P.underlying t = some (.array 6 e)) (he : P.underlying e = some (.int .i64)) (ha : ∀ w : World, (isAgg e).run P w = .ok false w) (hs : ∀ w : World, (Go.sizeOf e).run P w = .ok 1 w)
    (hx : ∀ a, ev a env x = .agg #[.int .i64 x0, .int .i64 x1, .int .i64 x2, .int .i64 x3, .int .i64 x4, .int .i64 x5]) (hy : ∀ a, ev a env y = .agg #[.int .i64 y0, .int .i64 y1, .int .i64 y2, .int .i64 y3, .int .i64 y4, .int .i64 y5]) : OpP P ⟨d, .binOp .eql t x y yt, ty, pos, af, g⟩ env [] (.bool (decide (x0 = y0 ∧ x1 = y1 ∧ x2 = y2 ∧ x3 = y3 ∧ x4 = y4 ∧ x5 = y5))) := fun a w _ => by
  simp [x_binOp, hx a, hy a, go_sem, run_eqGuard_agg w _ t _ _ _ _ hg, bin_eql_agg, Op.equal, Op.maxDepth, eq_arr6 w 9998 x0 x1 x2 x3 x4 x5 y0 y1 y2 y3 y4 y5 hu he ha hs]
end
/-- Segments brought together or parted, ahead of a call and behind it. -/
theorem does_re {P : Program} {f : FuncId} {args : Array Value} {H H1 : Hp} {Q Q1 : Value → Hp → Prop} (h : Does P f args H Q) (hf : H1.flatten = H.flatten) (hq : ∀ v H', Q v H' → ∃ H2, Q1 v H2 ∧ H2.flatten.Perm H'.flatten) : Does P f args H1 Q1 := fun u R w hs =>
  Calls.mono (h u R w (hs.sub ⟨[], by simp [hf]⟩)) fun e w' he => by
    rcases he with ⟨v, H', rfl, h1, h2⟩ | ⟨ch, H', rfl, h1, h2⟩
    · obtain ⟨H2, h3, h4⟩ := hq v H' h1
      refine .inl ⟨v, H2, rfl, h3, h2.perm ?_⟩
      rw [List.flatten_append, List.flatten_append]
      exact h4.symm.append_right _
    · exact h1.elim
end Gw
