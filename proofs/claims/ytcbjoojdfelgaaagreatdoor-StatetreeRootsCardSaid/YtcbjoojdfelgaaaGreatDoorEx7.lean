/- Walking by chunks: copy, append, slices of arrays, bytes out of a string. No function of the program is named. -/
import Derived.Test.YtcbjoojdfelgaaaGreatDoorEx4
namespace Gw
open Go Go.RowKit
section
variable {P : Program} {env : Env} {d : Option Nat} {ty : TypeId} {pos : String} {af : Array Edge} {g : Option (Nat × Bool)}
section
variable {t e : TypeId} {n : Nat} {x lo hi : Operand} {b o l h s : Nat} {lk hk : IntKind}
theorem p_slice_arr_all (hu : P.underlying t = some (.array n e)) (hs : ∀ w : World, (Go.sizeOf e).run P w = .ok s w) (hx : ∀ a, ev a env x = .pointer (some ⟨b, o, none⟩)) :
    OpP P ⟨d, .slice t x none none none, ty, pos, af, g⟩ env [] (.slice (some ⟨b, o, none⟩) n n) := fun a w _ => by
  simp [x_slice, hx a, Instr.sliceAt, run_underlying hu, Instr.sureAddr, Instr.sliceBounds, hs, Addr.add]
theorem p_slice_arr_from (hu : P.underlying t = some (.array n e)) (hs : ∀ w : World, (Go.sizeOf e).run P w = .ok s w) (hx : ∀ a, ev a env x = .pointer (some ⟨b, o, none⟩)) (hl : ∀ a, ev a env lo = .int lk (l : Int)) (h1 : l < n) :
    OpP P ⟨d, .slice t x (some lo) none none, ty, pos, af, g⟩ env [] (.slice (some ⟨b, o + l * s, none⟩) (n - l) (n - l)) := fun a w _ => by
  have h2 : l ≤ n := by omega
  have h3 : ¬ n = l := by omega
  simp [x_slice, hx a, hl a, Instr.sliceAt, run_underlying hu, Instr.sureAddr, Instr.sliceBounds, Instr.sliceBound, asIntOf, hs, h2, h3, add_addr]
theorem p_slice_arr_to (hu : P.underlying t = some (.array n e)) (hs : ∀ w : World, (Go.sizeOf e).run P w = .ok s w) (hx : ∀ a, ev a env x = .pointer (some ⟨b, o, none⟩)) (hh : ∀ a, ev a env hi = .int hk (h : Int)) (h1 : h ≤ n) :
    OpP P ⟨d, .slice t x none (some hi) none, ty, pos, af, g⟩ env [] (.slice (some ⟨b, o, none⟩) h n) := fun a w _ => by
  simp [x_slice, hx a, hh a, Instr.sliceAt, run_underlying hu, Instr.sureAddr, Instr.sliceBounds, Instr.sliceBound, asIntOf, hs, h1, Addr.add]
end
theorem p_slice_slice3 {t e : TypeId} {x lo hi mx : Operand} {b o n cap l h s : Nat} {lk hk mk : IntKind} (hu : P.underlying t = some (.slice e)) (hs : ∀ w : World, (Go.sizeOf e).run P w = .ok s w) (hx : ∀ a, ev a env x = .slice (some ⟨b, o, none⟩) n cap) (hl : ∀ a, ev a env lo = .int lk (l : Int)) (hh : ∀ a, ev a env hi = .int hk (h : Int)) (hm : ∀ a, ev a env mx = .int mk (h : Int)) (h1 : l < h) (h2 : h ≤ cap) :
    OpP P ⟨d, .slice t x (some lo) (some hi) (some mx), ty, pos, af, g⟩ env [] (.slice (some ⟨b, o + l * s, none⟩) (h - l) (h - l)) := fun a w _ => by
  have h3 : l ≤ h := by omega
  have h4 : ¬ h = l := by omega
  simp [x_slice, hx a, hl a, hh a, hm a, Instr.sliceAt, Instr.slice, run_underlying hu, Instr.sliceBounds, Instr.sliceBound, asIntOf, h2, h3, h4, hs, add_addr]
variable {u : World} {H H' R : Hp}
/-- The cells of a slice somewhere in a block. -/
def CellsIn (c : Array Value) (o : Nat) (cs : List Value) : Prop := (c.toList.drop o).take cs.length = cs
theorem CellsIn.get {c : Array Value} {o : Nat} {cs : List Value} (h : CellsIn c o cs) (j : Nat) (v : Value) (hj : cs[j]? = some v) : c[o + j]? = some v := by
  have hlt : j < cs.length := (List.getElem?_eq_some_iff.1 hj).1
  have h1 : ((c.toList.drop o).take cs.length)[j]? = cs[j]? := by rw [h]
  rw [List.getElem?_take, if_pos hlt, List.getElem?_drop, Array.getElem?_toList, hj] at h1
  exact h1
theorem cells_at {w : World} {b o : Nat} {c : Array Value} {T : TypeId} {z : Nat × Nat} {cs : List Value} (hb : w.heap[b]? = some (.cells c T z)) (h : CellsIn c o cs) : ∀ j v, cs[j]? = some v → w.cell? ((⟨b, o, none⟩ : Addr).add j) = some v := fun j v hj => by
  rw [add_addr]; exact sat_cell hb (h.get j v hj)
theorem w_copy {x y : Operand} {dT sT e : TypeId} {b o n cap b' o' n' cap' : Nat} {c c' c1 : Array Value} {T T1 : TypeId} {z z1 : Nat × Nat} {cs : List Value}
    (hu : P.underlying dT = some (.slice e)) (hs : ∀ w : World, (Go.sizeOf e).run P w = .ok 1 w) (hx : ∀ a, ev a env x = .slice (some ⟨b, o, none⟩) n cap) (hy : ∀ a, ev a env y = .slice (some ⟨b', o', none⟩) n' cap')
    (hsrc : Has b' (.cells c1 T1 z1) H) (hup : Upd b (.cells c T z) (.cells c' T z) H H') (hcs : CellsIn c1 o' cs) (hn : cs.length = min n' n) (hc : over c o cs = c') (hfit : o + cs.length ≤ c.size) (hz : Free z c.size) (h1 : ∀ v ∈ cs, v.oneCell' = true) :
    OpW P u ⟨d, .call ⟨.builtin .copy, #[x, y], #[dT, sT]⟩, ty, pos, af, g⟩ env H (fun v H1 => v = .int .i64 ((min n' n : Nat) : Int) ∧ H1 = H') (fun _ _ => False) := fun a w hsat K Kp hK _ => by
  have hb := hsat.get _ hup.has.mem
  have hb' := hsat.get _ hsrc.mem
  have hl := run_loadCells_list (P := P) w ⟨b', o', none⟩ cs (cells_at hb' hcs)
  rw [hn] at hl
  have hst := run_storeCells_free (P := P) b o T z cs 0 c w hb hz (by simpa using hfit) h1
  simp only [Nat.add_zero] at hst
  have hmin : Nat.min n' n = min n' n := rfl
  have : (execOp (ev a env) ⟨d, .call ⟨.builtin .copy, #[x, y], #[dT, sT]⟩, ty, pos, af, g⟩).run P w = .ok (.value (.int .i64 ((min n' n : Nat) : Int))) (w.setRow b (over c o cs)) := by
    simp [x_call, resolve, invoke, builtin, hx a, hy a, Builtin.copy_, run_underlying hu, Builtin.lenOf, Builtin.firstCells, hs, hmin, hl, hst, over, goInt]
  rw [this]
  exact hK _ _ _ ⟨rfl, rfl⟩ (hsat.upd hup rfl rfl rfl (by rw [setRow_heap w b c _ T z hb, hc]) fun k hk => setRow_other w b k _ hk)
/-- v is a slice of the call's own: nil, or the head of a row that is s. Its elements: xs, one cell each. -/
def Row (e : TypeId) (v : Value) (xs : List Value) (s : List Chunk) : Prop :=
  (v = .slice none 0 0 ∧ xs = [] ∧ s = []) ∨
  ∃ g cap cur z, v = .slice (some ⟨g, 0, none⟩) xs.length cap ∧ s = [(g, .cells cur e z)] ∧ xs.length ≤ cap ∧ cap ≤ maxLen ∧ cur.size = cap ∧ cur.toList.take xs.length = xs ∧ Free z cur.size
theorem row_nil (e : TypeId) : Row e (.slice none 0 0) [] [] := .inl ⟨rfl, rfl, rfl⟩
theorem row_new (e : TypeId) (g : Nat) (xs : List Value) (n : Nat) (hn : xs.length = n) (h : n ≤ maxLen) : Row e (.slice (some ⟨g, 0, none⟩) n n) xs [(g, .cells xs.toArray e (0, 0))] := by
  subst hn
  exact .inr ⟨g, xs.length, xs.toArray, (0, 0), rfl, rfl, Nat.le_refl _, h, by simp, by simp, free_zero _⟩
theorem Row.form {e : TypeId} {v : Value} {xs : List Value} {s : List Chunk} (h : Row e v xs s) : ∃ b cap, v = .slice b xs.length cap := by
  rcases h with ⟨rfl, rfl, rfl⟩ | ⟨g, cap, cur, z, rfl, _⟩
  · exact ⟨none, 0, rfl⟩
  · exact ⟨some ⟨g, 0, none⟩, cap, rfl⟩
theorem Row.some {e : TypeId} {v : Value} {xs : List Value} {s : List Chunk} (h : Row e v xs s) (hn : 0 < xs.length) : ∃ g cap cur z, v = .slice (some ⟨g, 0, none⟩) xs.length cap ∧ s = [(g, .cells cur e z)] ∧ xs.length ≤ cap ∧ cap ≤ maxLen ∧ cur.size = cap ∧ cur.toList.take xs.length = xs ∧ Free z cur.size := by
  rcases h with ⟨_, rfl, _⟩ | h
  · cases hn
  · exact h
theorem w_append {x y : Operand} {t e : TypeId} {i : TypeInfo} {z : Value} {by_ : Nat} {v : Value} {xs : List Value} {s : List Chunk} {b o m c : Nat} {c1 : Array Value} {T1 : TypeId} {z1 : Nat × Nat} {news : List Value}
    (ht : P.underlying t = some (.slice e)) (hi : P.info? e = some i) (hsz : i.size = 1) (hby : i.bytes = by_) (hzi : i.zero = some z) (hz1 : z.oneCell' = true)
    (hx : ∀ a, ev a env x = v) (hrow : Row e v xs s) (hy : ∀ a, ev a env y = .slice (some ⟨b, o, none⟩) m c) (hone : One s H R) (hsrc : Has b (.cells c1 T1 z1) R) (hnews : CellsIn c1 o news) (hl : news.length = m) (h1 : ∀ u ∈ news, u.oneCell' = true)
    (hm : 0 < m) (h63 : xs.length + m ≤ maxLen) (hb : (xs.length + m) * by_ ≤ 140737488355328) :
    OpW P u ⟨d, .call ⟨.builtin .append, #[x, y], #[t, t]⟩, ty, pos, af, g⟩ env H (fun v' H1 => ∃ s', Row e v' (xs ++ news) s' ∧ H1 = s' :: R) (fun _ _ => False) := fun a w hsat K Kp hK _ => by
  have hs1 : Sat u (s :: R) w := hsat.perm (by simpa using hone.perm)
  have hsR : Sat u R w := hs1.sub ⟨s, by simp only [List.flatten_cons]; exact List.perm_append_comm⟩
  have hsrcw := hsR.get _ hsrc.mem
  have hnw := cells_at hsrcw hnews
  have hzc : z.cells = #[z] := by cases z <;> first | rfl | simp [Value.oneCell'] at hz1
  have hl' : news.length = m * i.size := by rw [hsz]; omega
  have hml : maxLen = 9223372036854775807 := rfl
  have run_of : ∀ {v' : Value} {w' : World}, (Builtin.append_ #[t, t] ty #[v, .slice (some ⟨b, o, none⟩) m c]).run P w = .ok v' w' → (execOp (ev a env) ⟨d, .call ⟨.builtin .append, #[x, y], #[t, t]⟩, ty, pos, af, g⟩).run P w = .ok (.value v') w' := fun h => by
    simp only [x_call, resolve, invoke, builtin, List.map_toArray, List.map_cons, List.map_nil, hx a, hy a, Sem.run_bind, Sem.run_pure, Result.andThen_ok, h]
  -- a new row
  have fresh : ∀ (n cap : Nat) (cells : Array Value) (w1 : World), w1 = { w with drawn := n, heap := w.heap.push (.cells cells e) } → Sat u ([(w.heap.size, .cells cells e (0, 0))] :: R) w1 := fun n cap cells w1 h => by
    subst h
    exact (hsR.drawn n).alloc _
  rcases hrow with ⟨rfl, rfl, rfl⟩ | ⟨gb, cap, cur, zz, rfl, rfl, hle, hcm, hcs, htk, hfr⟩
  · have hr := run_append_nil (P := P) w t ty e i z ht hi hzi ⟨b, o, none⟩ m c news hl' hnw hm (by simp only [List.length_nil, Nat.zero_add] at h63; omega) (by rw [hby]; simp only [List.length_nil, Nat.zero_add] at hb; omega)
    rw [run_of hr]
    have hge := grownCap_ge w m 0 e
    have hcap : grownCap w m 0 e ≤ maxLen := grownCap_le_maxLen w m 0 e (by simpa using h63)
    refine hK _ _ _ ⟨[(w.heap.size, .cells (news.toArray ++ Builtin.zeroCells z.cells (grownCap w m 0 e - m)) e (0, 0))], .inr ⟨w.heap.size, grownCap w m 0 e, _, (0, 0), ?_, rfl, ?_, hcap, ?_, ?_, free_zero _⟩, rfl⟩ (fresh _ 0 _ _ rfl)
    · simp [hl]
    · simpa [hl] using hge
    · simp [size_zeroCells, hzc, hl]; omega
    · simp [hl]
  · have hg := hs1.get (gb, .cells cur e zz) (by simp)
    by_cases hroom : xs.length + m ≤ cap
    · have hf := run_firstCells_some (P := P) w i.size m ⟨b, o, none⟩ m c news hl' hnw
      rw [hsz] at hf
      have hst := run_storeCells_free (P := P) gb xs.length e zz news 0 cur w hg hfr (by rw [hl, hcs]; omega) h1
      simp only [Nat.add_zero] at hst
      have hr : (Builtin.append_ #[t, t] ty #[.slice (some ⟨gb, 0, none⟩) xs.length cap, .slice (some ⟨b, o, none⟩) m c]).run P w = .ok (.slice (some ⟨gb, 0, none⟩) (xs.length + m) cap) (w.setRow gb (over cur xs.length news)) := by
        simp [Builtin.append_, run_underlying ht, Go.sizeOf, typeInfo, hi, hsz, Builtin.lenOf, hroom, hf, add_addr, hst, over]
      rw [run_of hr]
      have hov : (over cur xs.length news).size = cap := by
        unfold over; simp; omega
      refine hK _ _ _ ⟨[(gb, .cells (over cur xs.length news) e zz)], .inr ⟨gb, cap, _, zz, by simp [hl], rfl, by simpa [hl] using hroom, hcm, hov, ?_, by rw [hov, ← hcs]; exact hfr⟩, rfl⟩
        (hs1.upd (.here _) rfl rfl rfl (setRow_heap w gb cur _ e zz hg) fun k hk => setRow_other w gb k _ hk)
      unfold over
      rw [htk]
      simp only [List.append_assoc]
      rw [← List.append_assoc]
      exact List.take_left' (by simp)
    · have holds : ∀ j v, xs[j]? = some v → w.cell? ((⟨gb, 0, none⟩ : Addr).add j) = some v := fun j v hj => by
        rw [add_addr]
        refine sat_cell hg ?_
        have hlt : j < xs.length := (List.getElem?_eq_some_iff.1 hj).1
        have : (cur.toList.take xs.length)[j]? = some v := by rw [htk]; exact hj
        rw [List.getElem?_take, if_pos hlt] at this
        simpa using this
      have hr := run_append_grow (P := P) w t ty e i z ht hi hzi ⟨gb, 0, none⟩ xs.length cap xs (by rw [hsz]; omega) holds ⟨b, o, none⟩ m c news hl' hnw (by omega) (by omega) (growslice_fits (by omega) (by rw [hby]; exact hb))
      rw [run_of hr]
      have hge := grownCap_ge w (xs.length + m) cap e
      have hcap : grownCap w (xs.length + m) cap e ≤ maxLen := grownCap_le_maxLen w (xs.length + m) cap e h63
      refine hK _ _ _ ⟨[(w.heap.size, .cells (xs.toArray ++ news.toArray ++ Builtin.zeroCells z.cells (grownCap w (xs.length + m) cap e - (xs.length + m))) e (0, 0))], .inr ⟨w.heap.size, grownCap w (xs.length + m) cap e, _, (0, 0), ?_, rfl, ?_, hcap, ?_, ?_, free_zero _⟩, rfl⟩ (fresh _ 0 _ _ rfl)
      · simp [hl]
      · simpa [hl] using hge
      · simp [size_zeroCells, hzc, hl]; omega
      · simp only [Array.toList_append]
        exact List.take_left' (by simp)
/-- The bytes of a string, as a row of the call's own. -/
theorem w_bytes {s t e : TypeId} {x : Operand} {str : ByteArray} (hs : P.underlying s = some .string) (ht : P.underlying t = some (.slice e)) (he : P.underlying e = some (.int .u8)) (hx : ∀ a, ev a env x = .string str) (hm : str.size ≤ maxLen) :
    OpW P u ⟨d, .convert s t x, ty, pos, af, g⟩ env H (fun v' H1 => ∃ s', Row e v' (str.data.toList.map u8v) s' ∧ H1 = s' :: H) (fun _ _ => False) := fun a w hsat K Kp hK _ => by
  have hge : str.size ≤ grownCap w str.size 0 e := grownCap_ge w str.size 0 e
  have hcap : grownCap w str.size 0 e ≤ maxLen := grownCap_le_maxLen w str.size 0 e hm
  have hlen : (str.data.toList.map u8v).length = str.size := by rw [List.length_map]; rfl
  obtain ⟨cells, hcells⟩ : ∃ cells : Array Value, cells = str.data.map (fun b => Value.int .u8 b.toNat) ++ Array.replicate (grownCap w str.size 0 e - str.size) (.int .u8 0) := ⟨_, rfl⟩
  have hsize : cells.size = grownCap w str.size 0 e := by
    have : str.data.size = str.size := rfl
    rw [hcells]; simp [this]; omega
  have hrun : (execOp (ev a env) ⟨d, .convert s t x, ty, pos, af, g⟩).run P w = .ok (.value (.slice (some ⟨w.heap.size, 0, none⟩) str.size (grownCap w str.size 0 e))) (World.freeze { w with drawn := w.drawn + 1, heap := w.heap.push (.cells cells e) } ⟨w.heap.size, cells.size, none⟩ 1) := by
    have hsh : (({ w with drawn := w.drawn + 1, heap := w.heap.push (.cells cells e) } : World).shape? w.heap.size) = some (e, cells.size) := by
      simp [World.shape?]
    simp only [x_convert, hx a, convert, Sem.run_bind, run_underlying hs, run_underlying ht, run_underlying he, Result.andThen_ok, Conv.stringToBytes, choose, Sem.run, Question.forced, newRow, newObj, Sem.run_pure, Bool.false_eq_true, if_false]
    rw [show Question.cut (.appendCap str.size 0 e) (w.tape w.drawn (.appendCap str.size 0 e)) = grownCap w str.size 0 e from rfl, ← hcells]
    simp [markStringish, hsh]
  rw [hrun]
  refine hK _ _ _ ⟨[(w.heap.size, .cells cells e (cells.size, cells.size + 1))], .inr ⟨w.heap.size, grownCap w str.size 0 e, cells, (cells.size, cells.size + 1), by rw [hlen], rfl, by rw [hlen]; exact hge, hcap, hsize, ?_, free_behind _ _ (Nat.le_refl _) _⟩, rfl⟩ ?_
  · rw [hlen, hcells]
    have : str.data.size = str.size := rfl
    simp [u8v, Function.comp_def, List.take_append, this]
  · have h1 : Sat u ([(w.heap.size, .cells cells e (0, 0))] :: H) { w with drawn := w.drawn + 1, heap := w.heap.push (.cells cells e) } := (hsat.drawn (w.drawn + 1)).alloc _
    refine h1.upd (.here _) ?_ ?_ ?_ ?_ fun k hk => ?_
    · simp [World.freeze]
    · simp [World.freeze]
    · simp [World.freeze]
    · simp only [World.freeze, Nat.one_ne_zero, if_false]
      rw [Array.getElem?_modify, if_pos rfl]
      simp
    · simp [World.freeze, Array.getElem?_modify, Ne.symm hk]
end
end Gw
