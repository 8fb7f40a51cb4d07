/- Walking by chunks: what strings.Builder does: a string appended to own bytes, unsafe pointers, unsafe.String. No function of the program is named. -/
import Derived.Test.YthbadolcncojbaaGreatDoorEx8
import Derived.Lib.AppendStr
import Derived.Lib.UnsafeStr
import Derived.Lib.Builder
import Derived.Laws.Externs

namespace Gw
open Go Go.RowKit

section
variable {P : Program} {u : World} {env : Env} {H R : Hp} {d : Option Nat} {ty : TypeId} {pos : String} {af : Array Edge} {g : Option (Nat × Bool)}
theorem w_append_str {x y : Operand} {t su e : TypeId} {i : TypeInfo} {z : Value} {by_ : Nat} {v : Value} {xs : List Value} {s : List Chunk} {l : List UInt8}
    (ht : P.underlying t = some (.slice e)) (hsu : P.underlying su = some .string) (hi : P.info? e = some i) (hsz : i.size = 1) (hby : i.bytes = by_) (hzi : i.zero = some z) (hz1 : z.oneCell' = true)
    (hx : ∀ a, ev a env x = v) (hrow : Row e v xs s) (hy : ∀ a, ev a env y = .string (str l)) (hone : One s H R)
    (hm : 0 < l.length) (h63 : xs.length + l.length ≤ maxLen) (hb : (xs.length + l.length) * by_ ≤ 140737488355328) :
    OpW P u ⟨d, .call ⟨.builtin .append, #[x, y], #[t, su]⟩, ty, pos, af, g⟩ env H (fun v' H1 => ∃ s', Row e v' (xs ++ l.map u8v) s' ∧ H1 = s' :: R) (fun _ _ => False) := fun a w hsat K Kp hK _ => by
  have hs1 : Sat u (s :: R) w := hsat.perm (by simpa using hone.perm)
  have hsR : Sat u R w := hs1.sub ⟨s, by simp only [List.flatten_cons]; exact List.perm_append_comm⟩
  have hzc : z.cells = #[z] := by cases z <;> first | rfl | simp [Value.oneCell'] at hz1
  have hml : maxLen = 9223372036854775807 := rfl
  have hss : (str l).size = l.length := by simp [str, ByteArray.size]
  have hsc : Lib.strCells (str l) = l.map u8v := by simp only [Lib.strCells, str]; rfl
  have hl : (l.map u8v).length = l.length := List.length_map ..
  have run_of : ∀ {v' : Value} {w' : World}, (Builtin.append_ #[t, su] ty #[v, .string (str l)]).run P w = .ok v' w' → (execOp (ev a env) ⟨d, .call ⟨.builtin .append, #[x, y], #[t, su]⟩, ty, pos, af, g⟩).run P w = .ok (.value v') w' := fun h => by
    simp only [x_call, resolve, invoke, builtin, List.map_toArray, List.map_cons, List.map_nil, hx a, hy a, Sem.run_bind, Sem.run_pure, Result.andThen_ok, h]
  have fresh : ∀ (n cap : Nat) (cells : Array Value) (w1 : World), w1 = { w with drawn := n, heap := w.heap.push (.cells cells e) } → Sat u ([(w.heap.size, .cells cells e (0, 0))] :: R) w1 := fun n cap cells w1 h => by
    subst h
    exact (hsR.drawn n).alloc _
  rcases hrow with ⟨rfl, rfl, rfl⟩ | ⟨gb, cap, cur, zz, rfl, rfl, hle, hcm, hcs, htk, hfr⟩
  · have hr := run_append_nil_string (P := P) w t su ty e i z ht hsu hi hzi (str l) (by omega) (by rw [hss]; simp only [List.length_nil, Nat.zero_add] at h63; omega) (by rw [hby, hss]; simp only [List.length_nil, Nat.zero_add] at hb; omega)
    rw [run_of hr, hss]
    have hge := grownCap_ge w l.length 0 e
    have hcap : grownCap w l.length 0 e ≤ maxLen := grownCap_le_maxLen w l.length 0 e (by simpa using h63)
    refine hK _ _ _ ⟨[(w.heap.size, .cells ((str l).data.map (fun b => Value.int .u8 b.toNat) ++ Builtin.zeroCells z.cells (grownCap w l.length 0 e - l.length)) e (0, 0))], .inr ⟨w.heap.size, grownCap w l.length 0 e, _, (0, 0), ?_, rfl, ?_, hcap, ?_, ?_, free_zero _⟩, rfl⟩ (fresh _ 0 _ _ rfl)
    · simp
    · simpa using hge
    · simp [size_zeroCells, hzc, str]; omega
    · have : ((str l).data.map (fun b => Value.int .u8 b.toNat)).toList = l.map u8v := by rw [Array.toList_map]; rfl
      simp only [List.nil_append, Array.toList_append, this]
      exact List.take_left' rfl
  · have hg := hs1.get (gb, .cells cur e zz) (by simp)
    by_cases hroom : xs.length + l.length ≤ cap
    · have hf := Lib.run_firstCells_string (P := P) w 1 (str l)
      rw [hss, hsc] at hf
      have hst := run_storeCells_free (P := P) gb xs.length e zz (l.map u8v) 0 cur w hg hfr (by rw [hl, hcs]; omega) (bytes_one l)
      simp only [Nat.add_zero] at hst
      have hr : (Builtin.append_ #[t, su] ty #[.slice (some ⟨gb, 0, none⟩) xs.length cap, .string (str l)]).run P w = .ok (.slice (some ⟨gb, 0, none⟩) (xs.length + l.length) cap) (w.setRow gb (over cur xs.length (l.map u8v))) := by
        simp [Builtin.append_, run_underlying ht, run_underlying hsu, Go.sizeOf, typeInfo, hi, hsz, Builtin.lenOf, hss, hroom, hf, add_addr, hst, over]
      rw [run_of hr]
      have hov : (over cur xs.length (l.map u8v)).size = cap := by
        unfold over; simp; omega
      refine hK _ _ _ ⟨[(gb, .cells (over cur xs.length (l.map u8v)) e zz)], .inr ⟨gb, cap, _, zz, by simp, rfl, by simpa using hroom, hcm, hov, ?_, by rw [hov, ← hcs]; exact hfr⟩, rfl⟩
        (hs1.upd (.here _) rfl rfl rfl (setRow_heap w gb cur _ e zz hg) fun k hk => setRow_other w gb k _ hk)
      unfold over
      rw [htk]
      simp only [List.append_assoc]
      rw [← List.append_assoc]
      exact List.take_left' (by simp)
    · have holds : ∀ j v, xs[j]? = some v → w.cell? ((⟨gb, 0, none⟩ : Addr).add j) = some v := fun j v hj => by
        rw [add_addr]
        refine sat_cell hg ?_
        have hlt : j < xs.length := (List.getElem?_eq_some_iff.1 hj).1
        have : (cur.toList.take xs.length)[j]? = some v := by rw [htk]; exact hj
        rw [List.getElem?_take, if_pos hlt] at this
        simpa using this
      have hr := Lib.run_append_grow_string (P := P) w t su ty e i z ht hsu hi hzi ⟨gb, 0, none⟩ xs.length cap xs (by rw [hsz]; omega) holds (str l) (by omega) (by omega) (growslice_fits (by omega) (by rw [hby, hss]; exact hb))
      rw [run_of hr, hss, hsc]
      have hge := grownCap_ge w (xs.length + l.length) cap e
      have hcap : grownCap w (xs.length + l.length) cap e ≤ maxLen := grownCap_le_maxLen w (xs.length + l.length) cap e h63
      refine hK _ _ _ ⟨[(w.heap.size, .cells (xs.toArray ++ (l.map u8v).toArray ++ Builtin.zeroCells z.cells (grownCap w (xs.length + l.length) cap e - (xs.length + l.length))) e (0, 0))], .inr ⟨w.heap.size, grownCap w (xs.length + l.length) cap e, _, (0, 0), ?_, rfl, ?_, hcap, ?_, ?_, free_zero _⟩, rfl⟩ (fresh _ 0 _ _ rfl)
      · simp
      · simpa using hge
      · simp [size_zeroCells, hzc]; omega
      · simp only [Array.toList_append]
        exact List.take_left' (by simp)
/- unsafe pointers -/
theorem p_to_unsafe {s t q e : TypeId} {x : Operand} {j : TypeInfo} {b : Nat} {c : Array Value} {z : Nat × Nat} (hs : P.underlying s = some (.pointer q)) (hd : P.underlying t = some .unsafePointer) (hq : P.info? q = some j) (hj : j.size ≠ 0) (hc : 0 < c.size) (hx : ∀ a, ev a env x = .pointer (some ⟨b, 0, none⟩)) :
    OpP P ⟨d, .convert s t x, ty, pos, af, g⟩ env [(b, .cells c e z)] (.pointer (some ⟨b, 0, none⟩)) := fun a w h => by
  have hb := h (b, .cells c e z) (by simp)
  have hsh : w.shape? b = some (e, c.size) := by simp [World.shape?, hb]
  have := Lib.run_to_unsafe (P := P) (w := w) ⟨b, 0, none⟩ hs hd hq hj hsh hc
  simp [x_convert, hx a, this]
theorem p_from_unsafe {s t q e : TypeId} {x : Operand} {j : TypeInfo} {b : Nat} {c : Array Value} {z : Nat × Nat} (hs : P.underlying s = some .unsafePointer) (hd : P.underlying t = some (.pointer q)) (hq : P.info? q = some j) (hl : liesAt P P.depth e (c.size / P.cellsOf e) 0 q 1 = true) (hx : ∀ a, ev a env x = .pointer (some ⟨b, 0, none⟩)) :
    OpP P ⟨d, .convert s t x, ty, pos, af, g⟩ env [(b, .cells c e z)] (.pointer (some ⟨b, 0, none⟩)) := fun a w h => by
  have hb := h (b, .cells c e z) (by simp)
  have hsh : w.shape? b = some (e, c.size) := by simp [World.shape?, hb]
  have := Lib.run_from_unsafe (P := P) (w := w) ⟨b, 0, none⟩ hs hd hq hsh hl
  simp [x_convert, hx a, this]
theorem p_neq_ptr_same {t q : TypeId} {x y : Operand} {yt : TypeId} {j : TypeInfo} {p : Addr} (ht : P.underlying t = some (.pointer q)) (hq : P.info? q = some j) (hx : ∀ a, ev a env x = .pointer (some p)) (hy : ∀ a, ev a env y = .pointer (some p)) :
    OpP P ⟨d, .binOp .neq t x y yt, ty, pos, af, g⟩ env [] (.bool false) := fun a w _ => by
  have := Lib.run_neq_ptr_same (P := P) w p ht hq
  simp [x_binOp, hx a, hy a, eqGuard, this]
/-- A call of a function without a body, one that the model answers out of its arguments alone. -/
theorem p_extern {f : FuncId} {fn : Func} {e : Array Value → Sem Value} {as : Array Operand} {ats : Array TypeId} {vs : List Value} {v : Value} (hf : P.funcs[f]? = some fn) (hname : (fn.name == "runtime.NumGoroutine") = false) (hb : fn.body.isNone = true) (hn : Extern.findNext fn = none) (he : Extern.find fn = some e)
    (ha : ∀ a, as.toList.map (ev a env) = vs) (hr : ∀ w : World, (e vs.toArray).run P w = .ok v w) :
    OpP P ⟨d, .call ⟨.value (.func f), as, ats⟩, ty, pos, af, g⟩ env [] v := fun a w _ => by
  have h1 : as.map (ev a env) = vs.toArray := by rw [← ha a]; exact map_list _ as
  have h2 := run_callFunc_extern hf hname hb hn he vs.toArray w
  rw [hr w] at h2
  have h3 : ev a env (.func f) = .func (.func f) #[] #[] := rfl
  simp [x_call, resolve, h3, Deferred.ofValue, invoke, h1, h2, Result.andThen]
theorem w_sliceData {t : TypeId} {x : Operand} {p : Addr} {n c : Nat} (hx : ∀ a, ev a env x = .slice (some p) n c) (hc : c ≠ 0) :
    OpW P u ⟨d, .call ⟨.builtin .unsafeSliceData, #[x], #[t]⟩, ty, pos, af, g⟩ env H (fun v H1 => v = .pointer (some p) ∧ H1 = H) (fun _ _ => False) := fun a w hsat K Kp hK _ => by
  have h := Lib.run_unsafeSliceData_row (P := P) (w := w) #[t] ty p n c hc
  have : (execOp (ev a env) ⟨d, .call ⟨.builtin .unsafeSliceData, #[x], #[t]⟩, ty, pos, af, g⟩).run P w = .ok (.value (.pointer (some p))) w := by
    simp only [x_call, resolve, invoke, builtin, List.map_toArray, List.map_cons, List.map_nil, hx a, Sem.run_bind, Sem.run_pure, Result.andThen_ok, h]
  rw [this]
  exact hK _ _ _ ⟨rfl, rfl⟩ hsat
theorem w_sliceData_nil {t : TypeId} {x : Operand} {n c : Nat} (hx : ∀ a, ev a env x = .slice none n c) :
    OpW P u ⟨d, .call ⟨.builtin .unsafeSliceData, #[x], #[t]⟩, ty, pos, af, g⟩ env H (fun v H1 => v = .pointer none ∧ H1 = H) (fun _ _ => False) := fun a w hsat K Kp hK _ => by
  have h := Lib.run_unsafeSliceData_nil (P := P) (w := w) #[t] ty n c
  have : (execOp (ev a env) ⟨d, .call ⟨.builtin .unsafeSliceData, #[x], #[t]⟩, ty, pos, af, g⟩).run P w = .ok (.value (.pointer none)) w := by
    simp only [x_call, resolve, invoke, builtin, List.map_toArray, List.map_cons, List.map_nil, hx a, Sem.run_bind, Sem.run_pure, Result.andThen_ok, h]
  rw [this]
  exact hK _ _ _ ⟨rfl, rfl⟩ hsat
theorem w_unsafeString_none {t it : TypeId} {x y : Operand} {q : Option Addr} (hx : ∀ a, ev a env x = .pointer q) (hy : ∀ a, ev a env y = .int .i64 0) :
    OpW P u ⟨d, .call ⟨.builtin .unsafeString, #[x, y], #[t, it]⟩, ty, pos, af, g⟩ env H (fun v H1 => v = .string (str []) ∧ H1 = H) (fun _ _ => False) := fun a w hsat K Kp hK _ => by
  have h := Lib.run_unsafeString_none (P := P) (w := w) t it ty q
  have : (execOp (ev a env) ⟨d, .call ⟨.builtin .unsafeString, #[x, y], #[t, it]⟩, ty, pos, af, g⟩).run P w = .ok (.value (.string .empty)) w := by
    simp only [x_call, resolve, invoke, builtin, List.map_toArray, List.map_cons, List.map_nil, hx a, hy a, Sem.run_bind, Sem.run_pure, Result.andThen_ok, h]
  rw [this]
  exact hK _ _ _ ⟨rfl, rfl⟩ hsat
/-- unsafe.String over own bytes: the bytes are frozen: they are let go. -/
theorem w_unsafeString {t it e : TypeId} {x y : Operand} {b : Nat} {c : Array Value} {z : Nat × Nat} {l : List UInt8} (ht : P.underlying t = some (.pointer e)) (hc1 : P.cellsOf e = 1) (hx : ∀ a, ev a env x = .pointer (some ⟨b, 0, none⟩)) (hy : ∀ a, ev a env y = .int .i64 (l.length : Int)) (h0 : l ≠ []) (h63 : l.length ≤ 9223372036854775807)
    (hone : One [(b, .cells c e z)] H R) (hc : c.toList.take l.length = l.map u8v) :
    OpW P u ⟨d, .call ⟨.builtin .unsafeString, #[x, y], #[t, it]⟩, ty, pos, af, g⟩ env H (fun v H1 => v = .string (str l) ∧ H1 = R) (fun _ _ => False) := fun a w hsat K Kp hK _ => by
  have hs1 : Sat u ([(b, .cells c e z)] :: R) w := hsat.perm (by simpa using hone.perm)
  have hsR : Sat u R w := hs1.sub ⟨[(b, .cells c e z)], by simp only [List.flatten_cons]; exact List.perm_append_comm⟩
  have hb := hs1.get (b, .cells c e z) (by simp)
  have hsh : w.shape? b = some (e, c.size) := by simp [World.shape?, hb]
  have hle : l.length ≤ c.size := by
    have h1 : (c.toList.take l.length).length = l.length := by rw [hc, List.length_map]
    rw [List.length_take] at h1
    have h2 := Nat.min_le_right l.length c.toList.length
    rw [h1] at h2
    exact Nat.le_trans h2 (Nat.le_of_eq (show c.toList.length = c.size from Array.length_toList))
  have hin : CellsIn c 0 (l.map u8v) := by unfold CellsIn; rw [List.drop_zero, List.length_map]; exact hc
  have h := Lib.run_unsafeString_row (P := P) w t it ty e ht hc1 b c.size hsh l h0 hle h63 (fun j x hx => cells_at hb hin j (.int .u8 x.toNat) (by rw [List.getElem?_map, hx]; rfl))
  have : (execOp (ev a env) ⟨d, .call ⟨.builtin .unsafeString, #[x, y], #[t, it]⟩, ty, pos, af, g⟩).run P w = .ok (.value (.string (str l))) (w.freeze ⟨b, 0, none⟩ l.length) := by
    simp only [x_call, resolve, invoke, builtin, List.map_toArray, List.map_cons, List.map_nil, hx a, hy a, Sem.run_bind, Sem.run_pure, Result.andThen_ok, h]; rfl
  rw [this]
  refine hK _ _ _ ⟨rfl, rfl⟩ ?_
  have hl0 : l.length ≠ 0 := by simpa using h0
  have hnd := hs1.nodup
  simp only [List.flatten_cons, List.singleton_append, List.map_cons, List.nodup_cons] at hnd
  unfold World.freeze
  rw [if_neg hl0]
  refine ⟨hsR.os, hsR.tape, hsR.output, hsR.nodup, fun p hp => ?_⟩
  have hne : p.1 ≠ b := fun h => hnd.1 (List.mem_map.2 ⟨p, hp, h⟩)
  show (w.heap.modify b _)[p.1]? = some p.2
  rw [Array.getElem?_modify, if_neg (fun h => hne h.symm)]
  exact hsR.get p hp
end
end Gw
