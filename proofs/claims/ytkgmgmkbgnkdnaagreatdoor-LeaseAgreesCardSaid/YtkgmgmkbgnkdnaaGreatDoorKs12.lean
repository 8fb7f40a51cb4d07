/- The comparator of chosen, to the world. -/
/- What the sort does with it. -/
import Derived.Test.YtkgmgmkbgnkdnaaGreatDoorEz
import Derived.Test.YtkgmgmkbgnkdnaaGreatDoorKs10
import Derived.Test.YtkgmgmkbgnkdnaaGreatDoorLin2
import Derived.Test.YtkgmgmkbgnkdnaaGreatDoorSort
import Derived.Test.YtkgmgmkbgnkdnaaGreatDoorEx21
import Derived.Shelf.SlSortCmp.NoneTotal

namespace Go.Proofs.YtkgmgmkbgnkdnaaGreatDoor
open Go.Proofs.Tryz
open Go Go.RowKit Gw
set_option linter.unusedVariables false
set_option linter.unusedSimpArgs false
set_option maxRecDepth 100000
attribute [local irreducible] Gw.At Gw.Nx Gw.Ops
open Go.Sort Go.Shelf
attribute [local go_sem] Gl.evalE Gl.lookE Gl.linUpon Gl.wantedE Gl.yieldE Gl.putE
def cmpR (c : Nat) (a b : RowM) : Int := orL (Lib.compareInt (valL a (c : Int)) (valL b (c : Int))) (Lib.compareInt a.k b.k)
def Stg (W : World) (n : Nat) (w : World) : Prop := ∃ q os, os.size = n ∧ w = grow (W.drewN q) os
theorem stg_new (W : World) : Stg W 0 W := ⟨0, #[], rfl, by simp [World.drewN]⟩
theorem stg_drew {W w : World} {n : Nat} (h : Stg W n w) : Stg W n w.drew := by
  obtain ⟨q, os, rfl, rfl⟩ := h
  exact ⟨q + 1, os, rfl, rfl⟩
theorem stg_more {W w : World} {n : Nat} (h : Stg W n w) (q' : Nat) (os' : Array Obj) : Stg W (n + os'.size) (grow (w.drewN q') os') := by
  obtain ⟨q, os, rfl, rfl⟩ := h
  refine ⟨q + q', os ++ os', by simp, ?_⟩
  simp [grow, World.drewN, Array.append_assoc, Nat.add_assoc]
theorem stg_heap {W w : World} {n b : Nat} {o : Obj} (h : Stg W n w) (hb : W.heap[b]? = some o) : w.heap[b]? = some o := by
  obtain ⟨q, os, rfl, rfl⟩ := h
  have hlt := (Array.getElem?_eq_some_iff.1 hb).1
  show (W.heap ++ os)[b]? = _
  rw [Array.getElem?_append_left hlt]; exact hb
theorem stg_size {W w : World} {n : Nat} (h : Stg W n w) : w.heap.size = W.heap.size + n := by
  obtain ⟨q, os, rfl, rfl⟩ := h
  show (W.heap ++ os).size = _
  simp
theorem alloc_get (w : World) (o : Obj) : (w.alloc o).heap[w.heap.size]? = some o := by
  show (w.heap.push o)[w.heap.size]? = some o
  exact Array.getElem?_push_size
theorem alloc_size (w : World) (o : Obj) : (w.alloc o).heap.size = w.heap.size + 1 := Array.size_push _
def stgN : Nat → Nat
  | 0 => 0 | 1 => 1 | 2 => 2 | 3 => 2 | 4 => 2 | 5 => 3 | _ => 3
def StgC (W : World) (T : Nat) (x y : Int) (k : Nat) (w : World) : Prop := Stg W (stgN k) w ∧ (5 ≤ k → w.heap[W.heap.size + 2]? = some (.cells #[.int .i64 x, .int .i64 y] T (0, 0)))
set_option maxHeartbeats 2000000 in
theorem cmp_calls (a b : RowM) (c : Nat) (hc : c ≤ 3) (cb : Nat) (W : World) (hcb : W.heap[cb]? = some (.cells #[.int .i64 (c : Int)] 3 (0, 0))) : Calls Tryz.prog 105 #[.agg #[.int .i64 a.t, .int .i64 a.k, .int .i64 a.v.a, .int .i64 a.v.b, .int .i64 a.v.c], .agg #[.int .i64 b.t, .int .i64 b.k, .int .i64 b.v.a, .int .i64 b.v.b, .int .i64 b.v.c], .pointer (some ⟨cb, 0, none⟩)] W fun e w' => e = .returned (.int .i64 (cmpR c a b)) ∧ ∃ q os', w' = grow (W.drewN q) os' := by
  have hlt := (Array.getElem?_eq_some_iff.1 hcb).1
  go_enter func105, ntmps105
  go_wp2
  generalize hW2 : (W.alloc _).alloc _ = W2
  have hS0 : Stg W 2 W2 := by
    rw [← hW2, alloc_eq_grow, alloc_eq_grow, grow_grow]
    exact ⟨0, _, rfl, rfl⟩
  have hS1 : Stg (W.alloc (.cells #[.int .i64 a.t, .int .i64 a.k, .int .i64 a.v.a, .int .i64 a.v.b, .int .i64 a.v.c] 67 (0, 0))) 1 W2 := by
    rw [← hW2, alloc_eq_grow _ (.cells #[.int .i64 b.t, .int .i64 b.k, .int .i64 b.v.a, .int .i64 b.v.b, .int .i64 b.v.c] 67 (0, 0))]
    exact ⟨0, _, rfl, rfl⟩
  have hA := stg_heap hS1 (alloc_get _ _)
  have hB : W2.heap[W.heap.size + 1]? = some (.cells #[.int .i64 b.t, .int .i64 b.k, .int .i64 b.v.a, .int .i64 b.v.b, .int .i64 b.v.c] 67 (0, 0)) := by
    rw [← hW2, ← alloc_size W (.cells #[.int .i64 a.t, .int .i64 a.k, .int .i64 a.v.a, .int .i64 a.v.b, .int .i64 a.v.c] 67 (0, 0))]
    exact alloc_get _ _
  have hC := stg_heap hS0 hcb
  refine Gl.wp_region_lin [false, false, true, false, false, true, true, false, false, false, false, true, true, true, false] (StgC W2 3 (Lib.compareInt (valL a (c : Int)) (valL b (c : Int))) (Lib.compareInt a.k b.k)) 20 rfl (by kernel_rfl) (by kernel_rfl) ⟨stg_drew (stg_new W2), fun h => absurd h (by decide)⟩ ?_
  intro fr hfr
  have HFR := Lib.hid hfr
  have e2 : fr.tmps.getD 2 undef = .pointer (some ⟨cb, 0, none⟩) := by rw [hfr]; rfl
  have e3 : fr.tmps.getD 3 undef = .pointer (some ⟨W.heap.size, 0, none⟩) := by rw [hfr]; rfl
  have e4 : fr.tmps.getD 4 undef = .pointer (some ⟨W.heap.size + 1, 0, none⟩) := by rw [hfr]; rfl
  clear hfr
  apply Gl.wpLin_keep
  · intro j wj hj K hK
    have hb := stg_heap hj.1 hA
    have c0 := sat_cell (i := 0) hb rfl
    have c1 := sat_cell (i := 1) hb rfl
    have c2 := sat_cell (i := 2) hb rfl
    have c3 := sat_cell (i := 3) hb rfl
    have c4 := sat_cell (i := 4) hb rfl
    go_simp
    exact hK _ hj
  apply Gl.wpLin_keep
  · intro j wj hj K hK
    have c0 := sat_cell (i := 0) (stg_heap hj.1 hC) rfl
    go_simp
    exact hK _ hj
  apply Gl.wpLin_move
  · intro wj hj K hK
    go_simp
    exact (value_calls a (c : Int) (by omega) _).mono (by
      rintro e w' ⟨rfl, q, o, rfl⟩
      exact ⟨_, rfl, hK _ ⟨stg_more hj.1 q #[o], fun h => absurd h (by decide)⟩⟩)
  apply Gl.wpLin_keep
  · intro j wj hj K hK
    have hb := stg_heap hj.1 hB
    have c0 := sat_cell (i := 0) hb rfl
    have c1 := sat_cell (i := 1) hb rfl
    have c2 := sat_cell (i := 2) hb rfl
    have c3 := sat_cell (i := 3) hb rfl
    have c4 := sat_cell (i := 4) hb rfl
    go_simp
    exact hK _ hj
  apply Gl.wpLin_keep
  · intro j wj hj K hK
    have c0 := sat_cell (i := 0) (stg_heap hj.1 hC) rfl
    go_simp
    exact hK _ hj
  apply Gl.wpLin_move
  · intro wj hj K hK
    go_simp
    exact (value_calls b (c : Int) (by omega) _).mono (by
      rintro e w' ⟨rfl, q, o, rfl⟩
      exact ⟨_, rfl, hK _ ⟨stg_more hj.1 q #[o], fun h => absurd h (by decide)⟩⟩)
  apply Gl.wpLin_move
  · intro wj hj K hK
    go_simp
    exact (Tryz.cmp_Compare_int _ _ _).mono (by
      rintro e w' ⟨rfl, rfl⟩
      exact ⟨_, rfl, hK _ ⟨hj.1, fun h => absurd h (by decide)⟩⟩)
  apply Gl.wpLin_keep
  · intro j wj hj K hK
    go_simp
    exact hK _ hj
  apply Gl.wpLin_keep
  · intro j wj hj K hK
    have c1 := sat_cell (i := 1) (stg_heap hj.1 hA) rfl
    go_simp
    exact hK _ hj
  apply Gl.wpLin_keep
  · intro j wj hj K hK
    go_simp
    exact hK _ hj
  apply Gl.wpLin_keep
  · intro j wj hj K hK
    have c1 := sat_cell (i := 1) (stg_heap hj.1 hB) rfl
    go_simp
    exact hK _ hj
  apply Gl.wpLin_move
  · intro wj hj K hK
    go_simp
    exact (Tryz.cmp_Compare_int _ _ _).mono (by
      rintro e w' ⟨rfl, rfl⟩
      exact ⟨_, rfl, hK _ ⟨hj.1, fun h => absurd h (by decide)⟩⟩)
  apply Gl.wpLin_move (v := .slice (some ⟨W2.heap.size + 2, 0, none⟩) 2 2)
  · intro wj hj K hK
    have hz := stg_size hj.1
    change wj.heap.size = W2.heap.size + 2 at hz
    go_simp
    have h := hK _ ⟨stg_more hj.1 0 #[.cells #[.int .i64 (Lib.compareInt (valL a (c : Int)) (valL b (c : Int))), .int .i64 (Lib.compareInt a.k b.k)] 3 (0, 0)], fun _ => ?_⟩
    · rw [alloc_eq_grow]
      exact h
    · rw [← hz]
      exact alloc_get wj _
  apply Gl.wpLin_move
  · intro wj hj K hK
    have hb := hj.2 (by decide)
    go_simp
    exact (or_calls _ _ _ _ (sat_cell (i := 0) hb rfl) (sat_cell (i := 1) hb rfl)).mono (by
      rintro e w' ⟨rfl, rfl⟩
      exact ⟨_, rfl, hK _ ⟨hj.1, fun _ => hb⟩⟩)
  apply Gl.wpLin_keep
  · intro j wj hj K hK
    go_simp
    exact hK _ hj
  apply Gl.wpLin_done
  intro wz hz
  rw [HFR.out]
  simp only [Gl.putE, Gl.putsE, Act.put, List.setIfInBounds_toArray, List.set_cons_zero, List.set_cons_succ]
  obtain ⟨⟨q, os, -, rfl⟩, -⟩ := hz
  clear HFR
  go_wp2
  go_ret
  obtain ⟨q', os', -, h⟩ := stg_more hS0 q os
  exact ⟨rfl, q', os', h⟩

end Go.Proofs.YtkgmgmkbgnkdnaaGreatDoor


namespace Go.Proofs.YtkgmgmkbgnkdnaaGreatDoor
open Go.Proofs.Tryz
open Go Go.RowKit Gw
set_option linter.unusedVariables false
set_option linter.unusedSimpArgs false
set_option maxRecDepth 100000
attribute [local irreducible] Gw.At Gw.Nx Gw.Ops
open Go.Sort Go.Shelf
instance : Inhabited RowM := ⟨⟨0, 0, ⟨0, 0, 0⟩⟩⟩
def encR (r : RowM) : List Value := [.int .i64 r.t, .int .i64 r.k, .int .i64 r.v.a, .int .i64 r.v.b, .int .i64 r.v.c]
theorem ltR (c : Nat) (a b : RowM) : ltOf (cmpR c) a b = decide (valL a (c : Int) < valL b (c : Int) ∨ valL a (c : Int) = valL b (c : Int) ∧ a.k < b.k) := by
  unfold ltOf cmpR orL Lib.compareInt
  have h1 := Int.lt_trichotomy (valL a (c : Int)) (valL b (c : Int))
  have h2 := Int.lt_trichotomy a.k b.k
  generalize valL a (c : Int) = x at *
  generalize valL b (c : Int) = y at *
  apply decide_eq_decide.2
  split <;> split <;> (try split) <;> (try split) <;> omega
theorem swoR (c : Nat) : SWO (ltOf (cmpR c)) where
  irrefl x := by rw [ltR]; simp
  trans x y z h1 h2 := by rw [ltR] at *; simp only [decide_eq_true_eq] at *; omega
  ntrans x y z h1 h2 := by rw [ltR] at *; simp only [decide_eq_false_iff_not] at *; omega
theorem sort_ok : SortOk := by
  intro cb c w o s hc hn hro
  obtain ⟨hlen, ⟨rfl, h0, rfl⟩ | ⟨g, cap, cur, z, rfl, rfl, hle, hcm, hcs, htk, hfr⟩⟩ := hro
  · intro u R w0 hs
    have ho : o = [] := List.eq_nil_of_length_eq_zero h0
    subst ho
    have hN := AnyF.slices_SortFunc_none Tryz.sortRow none 0 (.func (.func 105) #[] #[.pointer (some ⟨cb, 0, none⟩)]) w0
    exact hN.mono (by
      rintro e w' ⟨rfl, rfl⟩
      exact .inl ⟨_, _, rfl, ⟨rfl, [], [], .refl _, .nil, rowS_nil _ _, rfl⟩, hs⟩)
  · intro u R w0 hs
    have hb := hs.get (g, .cells cur 67 z) (by simp)
    have hcb := hs.get (cb, .cells #[.int .i64 (c : Int)] 3 (0, 0)) (by simp)
    have hne : g ≠ cb := by
      have := hs.nodup
      simp at this
      exact this.1.1
    have hH := holds_rowK (w := w0) (g := g) (cur := cur) (e := 67) (z := z) encR 5 (fun _=>rfl) o hb (by rw [hcs]; omega) hfr htk
    have eg : ∀ (args : Array Value) (w : World), (callFunc 105 args).run Tryz.prog w = .ok (.enter 105 args) w := enters_of func105 (by kernel_rfl) rfl
    have hcmp : CmpLays Tryz.prog 105 #[.pointer (some ⟨cb, 0, none⟩)] encR 5 (cmpR c) g 0 o.toArray.size w0 := by
      intro m os dk hsz x y
      refine cmp_calls x y c hc cb _ ?_
      have hlt := hs.lt (p := (cb, .cells #[.int .i64 (c : Int)] 3 (0, 0))) (by simp)
      rw [sortWorldK_other encR 5 w0 g m cb dk os hne hlt]
      exact hcb
    have hcon := AnyQ.slices_SortFunc Tryz.sortRow 5 isAgg67 sizeOf67 encR (fun _=>rfl) (fun x v hv => by simp [encR] at hv; rcases hv with rfl | rfl | rfl | rfl | rfl <;> rfl) (cmpR c) (swoR c) 105 #[.pointer (some ⟨cb, 0, none⟩)] g 0 cap o.toArray w0 eg hcmp hH (hs.lt (p := (g, .cells cur 67 z)) (by simp)) (by simp; omega)
    refine hcon.mono ?_
    rintro e w' ⟨rfl, d', n, os, ⟨hds, -, hpm⟩, hso, rfl⟩
    have hds' : d'.size = o.length := by simpa using hds
    have hF : (flatK encR 5 d').toList = rowCells d'.toList := flatK_list encR 5 (fun _=>rfl) d'.toList
    have hFs : (flatK encR 5 d').size = o.length * 5 := by rw [size_flatK, hds']
    have hpm2 : d'.toList.Perm o := by
      have e1 : d'.extract 0 o.toArray.size = d' := by
        rw [show o.toArray.size = d'.size by rw [hds'] ; simp]
        exact Array.extract_size
      rw [e1] at hpm
      simpa using hpm
    have hpl : d'.toList.length = o.length := hpm2.length_eq
    refine .inl ⟨_, [[(g, .cells (putCells id 0 (flatK encR 5 d') cur) 67 z)], [(cb, .cells #[.int .i64 (c : Int)] 3 (0, 0))]], rfl, ⟨rfl, _, d'.toList, hpm2, ?_, ?_, rfl⟩, hs.sortedK encR d' os⟩
    · rw [List.pairwise_iff_getElem]
      intro i j hi hj hij
      have h := hso i j (Nat.zero_le _) hij (by simp; omega)
      rw [ltR] at h
      simp only [decide_eq_false_iff_not] at h
      rw [getElem!_pos d' i (by simpa using hi), getElem!_pos d' j (by simpa using hj)] at h
      rw [valL_N _ c hc, valL_N _ c hc] at h
      unfold leV
      simp only [Array.getElem_toList]
      omega
    · rw [hpl]
      refine ⟨by rw [rowCells_len, hpl], .inr ⟨g, cap, _, z, rfl, rfl, hle, hcm, by rw [put_sizeK]; exact hcs, ?_, by rw [put_sizeK]; exact hfr⟩⟩
      have h := put_takeK cur (flatK encR 5 d') (by rw [hFs, hcs]; omega)
      rw [hFs, hF] at h
      exact h

end Go.Proofs.YtkgmgmkbgnkdnaaGreatDoor
