/- Walking by chunks: copy, append, slices of arrays, bytes out of a string. No function of the program is named. -/
/- Walking by chunks: an own slice whose elements are of several cells: append, clear. No function of the program is named. -/
/- Walking by chunks: an empty slice literal; append of a row that may be nil or empty. No function of the program is named. -/
/- Walking by chunks: a cut (what comes behind is proved once), a segment cut in two. No function of the program is named. -/
/- Walking by chunks: clear of a part of a row; rows behind a sort. No function of the program is named. -/
/- Walking by chunks: lists of three numbers compared. No function of the program is named. -/
import Derived.Test.YtjeepldonhgohaaGreatDoorEx4
import Derived.LaidEqlPtr
import Derived.Sort.OwnSortedInts
import Derived.Lib.SlicesCompact
import Derived.Laws.StructEq
namespace Gw
open Go Go.RowKit
section
variable {P : Program} {env : Env} {d : Option Nat} {ty : TypeId} {pos : String} {af : Array Edge} {g : Option (Nat × Bool)}
section
variable {t e : TypeId} {n : Nat} {x lo hi : Operand} {b o l h s : Nat} {lk hk : IntKind}
theorem p_slice_arr_all (hu : P.underlying t = some (.array n e)) (hs : ∀ w : World, (Go.sizeOf e).run P w = .ok s w) (hx : ∀ a, ev a env x = .pointer (some ⟨b, o, none⟩)) :
    OpP P ⟨d, .slice t x none none none, ty, pos, af, g⟩ env [] (.slice (some ⟨b, o, none⟩) n n) := fun a w _ => by
  simp [x_slice, hx a, Instr.sliceAt, run_underlying hu, Instr.sureAddr, Instr.sliceBounds, hs, Addr.add]
theorem p_slice_arr_from (hu : P.underlying t = some (.array n e)) (hs : ∀ w : World, (Go.sizeOf e).run P w = .ok s w) (hx : ∀ a, ev a env x = .pointer (some ⟨b, o, none⟩)) (hl : ∀ a, ev a env lo = .int lk (l : Int)) (h1 : l < n) :
    OpP P ⟨d, .slice t x (some lo) none none, ty, pos, af, g⟩ env [] (.slice (some ⟨b, o + l * s, none⟩) (n - l) (n - l)) := fun a w _ => by
  have h2 : l ≤ n := by omega
  have h3 : ¬ n = l := by omega
  simp [x_slice, hx a, hl a, Instr.sliceAt, run_underlying hu, Instr.sureAddr, Instr.sliceBounds, Instr.sliceBound, asIntOf, hs, h2, h3, add_addr]
theorem p_slice_arr_to (hu : P.underlying t = some (.array n e)) (hs : ∀ w : World, (Go.sizeOf e).run P w = .ok s w) (hx : ∀ a, ev a env x = .pointer (some ⟨b, o, none⟩)) (hh : ∀ a, ev a env hi = .int hk (h : Int)) (h1 : h ≤ n) :
    OpP P ⟨d, .slice t x none (some hi) none, ty, pos, af, g⟩ env [] (.slice (some ⟨b, o, none⟩) h n) := fun a w _ => by
  simp [x_slice, hx a, hh a, Instr.sliceAt, run_underlying hu, Instr.sureAddr, Instr.sliceBounds, Instr.sliceBound, asIntOf, hs, h1, Addr.add]
end
theorem p_slice_slice3 {t e : TypeId} {x lo hi mx : Operand} {b o n cap l h s : Nat} {lk hk mk : IntKind} (hu : P.underlying t = some (.slice e)) (hs : ∀ w : World, (Go.sizeOf e).run P w = .ok s w) (hx : ∀ a, ev a env x = .slice (some ⟨b, o, none⟩) n cap) (hl : ∀ a, ev a env lo = .int lk (l : Int)) (hh : ∀ a, ev a env hi = .int hk (h : Int)) (hm : ∀ a, ev a env mx = .int mk (h : Int)) (h1 : l < h) (h2 : h ≤ cap) :
    OpP P ⟨d, .slice t x (some lo) (some hi) (some mx), ty, pos, af, g⟩ env [] (.slice (some ⟨b, o + l * s, none⟩) (h - l) (h - l)) := fun a w _ => by
  have h3 : l ≤ h := by omega
  have h4 : ¬ h = l := by omega
  simp [x_slice, hx a, hl a, hh a, hm a, Instr.sliceAt, Instr.slice, run_underlying hu, Instr.sliceBounds, Instr.sliceBound, asIntOf, h2, h3, h4, hs, add_addr]
variable {u : World} {H H' R : Hp}
/-- The cells of a slice somewhere in a block. -/
def CellsIn (c : Array Value) (o : Nat) (cs : List Value) : Prop := (c.toList.drop o).take cs.length = cs
theorem CellsIn.get {c : Array Value} {o : Nat} {cs : List Value} (h : CellsIn c o cs) (j : Nat) (v : Value) (hj : cs[j]? = some v) : c[o + j]? = some v := by
  have hlt : j < cs.length := (List.getElem?_eq_some_iff.1 hj).1
  have h1 : ((c.toList.drop o).take cs.length)[j]? = cs[j]? := by rw [h]
  rw [List.getElem?_take, if_pos hlt, List.getElem?_drop, Array.getElem?_toList, hj] at h1
  exact h1
theorem cells_at {w : World} {b o : Nat} {c : Array Value} {T : TypeId} {z : Nat × Nat} {cs : List Value} (hb : w.heap[b]? = some (.cells c T z)) (h : CellsIn c o cs) : ∀ j v, cs[j]? = some v → w.cell? ((⟨b, o, none⟩ : Addr).add j) = some v := fun j v hj => by
  rw [add_addr]; exact sat_cell hb (h.get j v hj)
theorem w_copy {x y : Operand} {dT sT e : TypeId} {b o n cap b' o' n' cap' : Nat} {c c' c1 : Array Value} {T T1 : TypeId} {z z1 : Nat × Nat} {cs : List Value}
    (hu : P.underlying dT = some (.slice e)) (hs : ∀ w : World, (Go.sizeOf e).run P w = .ok 1 w) (hx : ∀ a, ev a env x = .slice (some ⟨b, o, none⟩) n cap) (hy : ∀ a, ev a env y = .slice (some ⟨b', o', none⟩) n' cap')
    (hsrc : Has b' (.cells c1 T1 z1) H) (hup : Upd b (.cells c T z) (.cells c' T z) H H') (hcs : CellsIn c1 o' cs) (hn : cs.length = min n' n) (hc : over c o cs = c') (hfit : o + cs.length ≤ c.size) (hz : Free z c.size) (h1 : ∀ v ∈ cs, v.oneCell' = true) :
    OpW P u ⟨d, .call ⟨.builtin .copy, #[x, y], #[dT, sT]⟩, ty, pos, af, g⟩ env H (fun v H1 => v = .int .i64 ((min n' n : Nat) : Int) ∧ H1 = H') (fun _ _ => False) := fun a w hsat K Kp hK _ => by
  have hb := hsat.get _ hup.has.mem
  have hb' := hsat.get _ hsrc.mem
  have hl := run_loadCells_list (P := P) w ⟨b', o', none⟩ cs (cells_at hb' hcs)
  rw [hn] at hl
  have hst := run_storeCells_free (P := P) b o T z cs 0 c w hb hz (by simpa using hfit) h1
  simp only [Nat.add_zero] at hst
  have hmin : Nat.min n' n = min n' n := rfl
  have : (execOp (ev a env) ⟨d, .call ⟨.builtin .copy, #[x, y], #[dT, sT]⟩, ty, pos, af, g⟩).run P w = .ok (.value (.int .i64 ((min n' n : Nat) : Int))) (w.setRow b (over c o cs)) := by
    simp [x_call, resolve, invoke, builtin, hx a, hy a, Builtin.copy_, run_underlying hu, Builtin.lenOf, Builtin.firstCells, hs, hmin, hl, hst, over, goInt]
  rw [this]
  exact hK _ _ _ ⟨rfl, rfl⟩ (hsat.upd hup rfl rfl rfl (by rw [setRow_heap w b c _ T z hb, hc]) fun k hk => setRow_other w b k _ hk)
/-- v is a slice of the call's own: nil, or the head of a row that is s. Its elements: xs, one cell each. -/
def Row (e : TypeId) (v : Value) (xs : List Value) (s : List Chunk) : Prop :=
  (v = .slice none 0 0 ∧ xs = [] ∧ s = []) ∨
  ∃ g cap cur z, v = .slice (some ⟨g, 0, none⟩) xs.length cap ∧ s = [(g, .cells cur e z)] ∧ xs.length ≤ cap ∧ cap ≤ maxLen ∧ cur.size = cap ∧ cur.toList.take xs.length = xs ∧ Free z cur.size
theorem row_nil (e : TypeId) : Row e (.slice none 0 0) [] [] := .inl ⟨rfl, rfl, rfl⟩
theorem row_new (e : TypeId) (g : Nat) (xs : List Value) (n : Nat) (hn : xs.length = n) (h : n ≤ maxLen) : Row e (.slice (some ⟨g, 0, none⟩) n n) xs [(g, .cells xs.toArray e (0, 0))] := by
  subst hn
  exact .inr ⟨g, xs.length, xs.toArray, (0, 0), rfl, rfl, Nat.le_refl _, h, by simp, by simp, free_zero _⟩
theorem Row.form {e : TypeId} {v : Value} {xs : List Value} {s : List Chunk} (h : Row e v xs s) : ∃ b cap, v = .slice b xs.length cap := by
  rcases h with ⟨rfl, rfl, rfl⟩ | ⟨g, cap, cur, z, rfl, _⟩
  · exact ⟨none, 0, rfl⟩
  · exact ⟨some ⟨g, 0, none⟩, cap, rfl⟩
theorem Row.some {e : TypeId} {v : Value} {xs : List Value} {s : List Chunk} (h : Row e v xs s) (hn : 0 < xs.length) : ∃ g cap cur z, v = .slice (some ⟨g, 0, none⟩) xs.length cap ∧ s = [(g, .cells cur e z)] ∧ xs.length ≤ cap ∧ cap ≤ maxLen ∧ cur.size = cap ∧ cur.toList.take xs.length = xs ∧ Free z cur.size := by
  rcases h with ⟨_, rfl, _⟩ | h
  · cases hn
  · exact h
theorem w_append {x y : Operand} {t e : TypeId} {i : TypeInfo} {z : Value} {by_ : Nat} {v : Value} {xs : List Value} {s : List Chunk} {b o m c : Nat} {c1 : Array Value} {T1 : TypeId} {z1 : Nat × Nat} {news : List Value}
    (ht : P.underlying t = some (.slice e)) (hi : P.info? e = some i) (hsz : i.size = 1) (hby : i.bytes = by_) (hzi : i.zero = some z) (hz1 : z.oneCell' = true)
    (hx : ∀ a, ev a env x = v) (hrow : Row e v xs s) (hy : ∀ a, ev a env y = .slice (some ⟨b, o, none⟩) m c) (hone : One s H R) (hsrc : Has b (.cells c1 T1 z1) R) (hnews : CellsIn c1 o news) (hl : news.length = m) (h1 : ∀ u ∈ news, u.oneCell' = true)
    (hm : 0 < m) (h63 : xs.length + m ≤ maxLen) (hb : (xs.length + m) * by_ ≤ 140737488355328) :
    OpW P u ⟨d, .call ⟨.builtin .append, #[x, y], #[t, t]⟩, ty, pos, af, g⟩ env H (fun v' H1 => ∃ s', Row e v' (xs ++ news) s' ∧ H1 = s' :: R) (fun _ _ => False) := fun a w hsat K Kp hK _ => by
  have hs1 : Sat u (s :: R) w := hsat.perm (by simpa using hone.perm)
  have hsR : Sat u R w := hs1.sub ⟨s, by simp only [List.flatten_cons]; exact List.perm_append_comm⟩
  have hsrcw := hsR.get _ hsrc.mem
  have hnw := cells_at hsrcw hnews
  have hzc : z.cells = #[z] := by cases z <;> first | rfl | simp [Value.oneCell'] at hz1
  have hl' : news.length = m * i.size := by rw [hsz]; omega
  have hml : maxLen = 9223372036854775807 := rfl
  have run_of : ∀ {v' : Value} {w' : World}, (Builtin.append_ #[t, t] ty #[v, .slice (some ⟨b, o, none⟩) m c]).run P w = .ok v' w' → (execOp (ev a env) ⟨d, .call ⟨.builtin .append, #[x, y], #[t, t]⟩, ty, pos, af, g⟩).run P w = .ok (.value v') w' := fun h => by
    simp only [x_call, resolve, invoke, builtin, List.map_toArray, List.map_cons, List.map_nil, hx a, hy a, Sem.run_bind, Sem.run_pure, Result.andThen_ok, h]
  -- a new row
  have fresh : ∀ (n cap : Nat) (cells : Array Value) (w1 : World), w1 = { w with drawn := n, heap := w.heap.push (.cells cells e) } → Sat u ([(w.heap.size, .cells cells e (0, 0))] :: R) w1 := fun n cap cells w1 h => by
    subst h
    exact (hsR.drawn n).alloc _
  rcases hrow with ⟨rfl, rfl, rfl⟩ | ⟨gb, cap, cur, zz, rfl, rfl, hle, hcm, hcs, htk, hfr⟩
  · have hr := run_append_nil (P := P) w t ty e i z ht hi hzi ⟨b, o, none⟩ m c news hl' hnw hm (by simp only [List.length_nil, Nat.zero_add] at h63; omega) (by rw [hby]; simp only [List.length_nil, Nat.zero_add] at hb; omega)
    rw [run_of hr]
    have hge := grownCap_ge w m 0 e
    have hcap : grownCap w m 0 e ≤ maxLen := grownCap_le_maxLen w m 0 e (by simpa using h63)
    refine hK _ _ _ ⟨[(w.heap.size, .cells (news.toArray ++ Builtin.zeroCells z.cells (grownCap w m 0 e - m)) e (0, 0))], .inr ⟨w.heap.size, grownCap w m 0 e, _, (0, 0), ?_, rfl, ?_, hcap, ?_, ?_, free_zero _⟩, rfl⟩ (fresh _ 0 _ _ rfl)
    · simp [hl]
    · simpa [hl] using hge
    · simp [size_zeroCells, hzc, hl]; omega
    · simp [hl]
  · have hg := hs1.get (gb, .cells cur e zz) (by simp)
    by_cases hroom : xs.length + m ≤ cap
    · have hf := run_firstCells_some (P := P) w i.size m ⟨b, o, none⟩ m c news hl' hnw
      rw [hsz] at hf
      have hst := run_storeCells_free (P := P) gb xs.length e zz news 0 cur w hg hfr (by rw [hl, hcs]; omega) h1
      simp only [Nat.add_zero] at hst
      have hr : (Builtin.append_ #[t, t] ty #[.slice (some ⟨gb, 0, none⟩) xs.length cap, .slice (some ⟨b, o, none⟩) m c]).run P w = .ok (.slice (some ⟨gb, 0, none⟩) (xs.length + m) cap) (w.setRow gb (over cur xs.length news)) := by
        simp [Builtin.append_, run_underlying ht, Go.sizeOf, typeInfo, hi, hsz, Builtin.lenOf, hroom, hf, add_addr, hst, over]
      rw [run_of hr]
      have hov : (over cur xs.length news).size = cap := by
        unfold over; simp; omega
      refine hK _ _ _ ⟨[(gb, .cells (over cur xs.length news) e zz)], .inr ⟨gb, cap, _, zz, by simp [hl], rfl, by simpa [hl] using hroom, hcm, hov, ?_, by rw [hov, ← hcs]; exact hfr⟩, rfl⟩
        (hs1.upd (.here _) rfl rfl rfl (setRow_heap w gb cur _ e zz hg) fun k hk => setRow_other w gb k _ hk)
      unfold over
      rw [htk]
      simp only [List.append_assoc]
      rw [← List.append_assoc]
      exact List.take_left' (by simp)
    · have holds : ∀ j v, xs[j]? = some v → w.cell? ((⟨gb, 0, none⟩ : Addr).add j) = some v := fun j v hj => by
        rw [add_addr]
        refine sat_cell hg ?_
        have hlt : j < xs.length := (List.getElem?_eq_some_iff.1 hj).1
        have : (cur.toList.take xs.length)[j]? = some v := by rw [htk]; exact hj
        rw [List.getElem?_take, if_pos hlt] at this
        simpa using this
      have hr := run_append_grow (P := P) w t ty e i z ht hi hzi ⟨gb, 0, none⟩ xs.length cap xs (by rw [hsz]; omega) holds ⟨b, o, none⟩ m c news hl' hnw (by omega) (by omega) (growslice_fits (by omega) (by rw [hby]; exact hb))
      rw [run_of hr]
      have hge := grownCap_ge w (xs.length + m) cap e
      have hcap : grownCap w (xs.length + m) cap e ≤ maxLen := grownCap_le_maxLen w (xs.length + m) cap e h63
      refine hK _ _ _ ⟨[(w.heap.size, .cells (xs.toArray ++ news.toArray ++ Builtin.zeroCells z.cells (grownCap w (xs.length + m) cap e - (xs.length + m))) e (0, 0))], .inr ⟨w.heap.size, grownCap w (xs.length + m) cap e, _, (0, 0), ?_, rfl, ?_, hcap, ?_, ?_, free_zero _⟩, rfl⟩ (fresh _ 0 _ _ rfl)
      · simp [hl]
      · simpa [hl] using hge
      · simp [size_zeroCells, hzc, hl]; omega
      · simp only [Array.toList_append]
        exact List.take_left' (by simp)
/-- The bytes of a string, as a row of the call's own. -/
theorem w_bytes {s t e : TypeId} {x : Operand} {str : ByteArray} (hs : P.underlying s = some .string) (ht : P.underlying t = some (.slice e)) (he : P.underlying e = some (.int .u8)) (hx : ∀ a, ev a env x = .string str) (hm : str.size ≤ maxLen) :
    OpW P u ⟨d, .convert s t x, ty, pos, af, g⟩ env H (fun v' H1 => ∃ s', Row e v' (str.data.toList.map u8v) s' ∧ H1 = s' :: H) (fun _ _ => False) := fun a w hsat K Kp hK _ => by
  have hge : str.size ≤ grownCap w str.size 0 e := grownCap_ge w str.size 0 e
  have hcap : grownCap w str.size 0 e ≤ maxLen := grownCap_le_maxLen w str.size 0 e hm
  have hlen : (str.data.toList.map u8v).length = str.size := by rw [List.length_map]; rfl
  obtain ⟨cells, hcells⟩ : ∃ cells : Array Value, cells = str.data.map (fun b => Value.int .u8 b.toNat) ++ Array.replicate (grownCap w str.size 0 e - str.size) (.int .u8 0) := ⟨_, rfl⟩
  have hsize : cells.size = grownCap w str.size 0 e := by
    have : str.data.size = str.size := rfl
    rw [hcells]; simp [this]; omega
  have hrun : (execOp (ev a env) ⟨d, .convert s t x, ty, pos, af, g⟩).run P w = .ok (.value (.slice (some ⟨w.heap.size, 0, none⟩) str.size (grownCap w str.size 0 e))) (World.freeze { w with drawn := w.drawn + 1, heap := w.heap.push (.cells cells e) } ⟨w.heap.size, cells.size, none⟩ 1) := by
    have hsh : (({ w with drawn := w.drawn + 1, heap := w.heap.push (.cells cells e) } : World).shape? w.heap.size) = some (e, cells.size) := by
      simp [World.shape?]
    simp only [x_convert, hx a, convert, Sem.run_bind, run_underlying hs, run_underlying ht, run_underlying he, Result.andThen_ok, Conv.stringToBytes, choose, Sem.run, Question.forced, newRow, newObj, Sem.run_pure, Bool.false_eq_true, if_false]
    rw [show Question.cut (.appendCap str.size 0 e) (w.tape w.drawn (.appendCap str.size 0 e)) = grownCap w str.size 0 e from rfl, ← hcells]
    simp [markStringish, hsh]
  rw [hrun]
  refine hK _ _ _ ⟨[(w.heap.size, .cells cells e (cells.size, cells.size + 1))], .inr ⟨w.heap.size, grownCap w str.size 0 e, cells, (cells.size, cells.size + 1), by rw [hlen], rfl, by rw [hlen]; exact hge, hcap, hsize, ?_, free_behind _ _ (Nat.le_refl _) _⟩, rfl⟩ ?_
  · rw [hlen, hcells]
    have : str.data.size = str.size := rfl
    simp [u8v, Function.comp_def, List.take_append, this]
  · have h1 : Sat u ([(w.heap.size, .cells cells e (0, 0))] :: H) { w with drawn := w.drawn + 1, heap := w.heap.push (.cells cells e) } := (hsat.drawn (w.drawn + 1)).alloc _
    refine h1.upd (.here _) ?_ ?_ ?_ ?_ fun k hk => ?_
    · simp [World.freeze]
    · simp [World.freeze]
    · simp [World.freeze]
    · simp only [World.freeze, Nat.one_ne_zero, if_false]
      rw [Array.getElem?_modify, if_pos rfl]
      simp
    · simp [World.freeze, Array.getElem?_modify, Ne.symm hk]
end
end Gw

namespace Gw
open Go Go.RowKit

theorem at_nil {P : Program} {cx : Cx} {c : Code} {Q : Exit → Act → World → Prop} {env : Env} {H : Hp} (h : At P cx c Q env ([] :: H)) : At P cx c Q env H := at_flat (H' := [] :: H) rfl h
/-- v is a slice of the call's own: nil, or the head of a row that is s. It has k elements of sz cells each; their cells: xs. -/
def RowS (sz : Nat) (e : TypeId) (v : Value) (k : Nat) (xs : List Value) (s : List Chunk) : Prop :=
  xs.length = k * sz ∧ ((v = .slice none 0 0 ∧ k = 0 ∧ s = []) ∨
  ∃ g cap cur z, v = .slice (some ⟨g, 0, none⟩) k cap ∧ s = [(g, .cells cur e z)] ∧ k ≤ cap ∧ cap ≤ maxLen ∧ cur.size = cap * sz ∧ cur.toList.take (k * sz) = xs ∧ Free z cur.size)
theorem rowS_nil (sz : Nat) (e : TypeId) : RowS sz e (.slice none 0 0) 0 [] [] := ⟨by simp, .inl ⟨rfl, rfl, rfl⟩⟩
theorem RowS.form {sz : Nat} {e : TypeId} {v : Value} {k : Nat} {xs : List Value} {s : List Chunk} (h : RowS sz e v k xs s) : ∃ b cap, v = .slice b k cap := by
  rcases h with ⟨_, ⟨rfl, rfl, rfl⟩ | ⟨g, cap, cur, z, rfl, _⟩⟩
  · exact ⟨none, 0, rfl⟩
  · exact ⟨some ⟨g, 0, none⟩, cap, rfl⟩
/-- Its head, cut to nothing. -/
theorem RowS.cut {sz : Nat} {e : TypeId} {b : Option Addr} {n cap k : Nat} {xs : List Value} {s : List Chunk} (h : RowS sz e (.slice b n cap) k xs s) : RowS sz e (.slice b 0 cap) 0 [] s := by
  rcases h with ⟨_, ⟨h1, rfl, rfl⟩ | ⟨g, cap', cur, z, h1, rfl, hle, hcm, hcs, htk, hfr⟩⟩
  · simp only [Value.slice.injEq] at h1
    obtain ⟨rfl, rfl, rfl⟩ := h1
    exact rowS_nil sz e
  · simp only [Value.slice.injEq] at h1
    obtain ⟨rfl, rfl, rfl⟩ := h1
    exact ⟨by simp, .inr ⟨g, cap, cur, z, rfl, rfl, Nat.zero_le _, hcm, hcs, by simp, hfr⟩⟩
section
variable {P : Program} {u : World} {env : Env} {H R : Hp} {d : Option Nat} {ty : TypeId} {pos : String} {af : Array Edge} {g : Option (Nat × Bool)}
theorem w_appendW {x y : Operand} {t e : TypeId} {i : TypeInfo} {z : Value} {by_ sz k : Nat} {v : Value} {xs : List Value} {s : List Chunk} {b o m c : Nat} {news : List Value}
    (ht : P.underlying t = some (.slice e)) (hi : P.info? e = some i) (hsz : i.size = sz) (hby : i.bytes = by_) (hzi : i.zero = some z) (hz1 : z.cells.size = sz)
    (hx : ∀ a, ev a env x = v) (hrow : RowS sz e v k xs s) (hy : ∀ a, ev a env y = .slice (some ⟨b, o, none⟩) m c) (hone : One s H R) (hnw0 : ∀ w, Sat u R w → ∀ j v, news[j]? = some v → w.cell? ((⟨b, o, none⟩ : Addr).add j) = some v) (hl : news.length = m * sz) (h1 : ∀ u ∈ news, u.oneCell' = true)
    (hm : 0 < m) (h63 : k + m ≤ maxLen) (hb : (k + m) * by_ ≤ 140737488355328) :
    OpW P u ⟨d, .call ⟨.builtin .append, #[x, y], #[t, t]⟩, ty, pos, af, g⟩ env H (fun v' H1 => ∃ s', RowS sz e v' (k + m) (xs ++ news) s' ∧ H1 = s' :: R) (fun _ _ => False) := fun a w hsat K Kp hK _ => by
  have hs1 : Sat u (s :: R) w := hsat.perm (by simpa using hone.perm)
  have hsR : Sat u R w := hs1.sub ⟨s, by simp only [List.flatten_cons]; exact List.perm_append_comm⟩
  have hnw := hnw0 w hsR
  have hl' : news.length = m * i.size := by rw [hsz]; omega
  have hml : maxLen = 9223372036854775807 := rfl
  have run_of : ∀ {v' : Value} {w' : World}, (Builtin.append_ #[t, t] ty #[v, .slice (some ⟨b, o, none⟩) m c]).run P w = .ok v' w' → (execOp (ev a env) ⟨d, .call ⟨.builtin .append, #[x, y], #[t, t]⟩, ty, pos, af, g⟩).run P w = .ok (.value v') w' := fun h => by
    simp only [x_call, resolve, invoke, builtin, List.map_toArray, List.map_cons, List.map_nil, hx a, hy a, Sem.run_bind, Sem.run_pure, Result.andThen_ok, h]
  have fresh : ∀ (n cap : Nat) (cells : Array Value) (w1 : World), w1 = { w with drawn := n, heap := w.heap.push (.cells cells e) } → Sat u ([(w.heap.size, .cells cells e (0, 0))] :: R) w1 := fun n cap cells w1 h => by
    subst h
    exact (hsR.drawn n).alloc _
  obtain ⟨hxl, hrow⟩ := hrow
  have hall : (xs ++ news).length = (k + m) * sz := by rw [List.length_append, hxl, hl, Nat.add_mul]
  have split : ∀ n p : Nat, p ≤ n → p * sz + (n - p) * sz = n * sz := fun n p h => by rw [← Nat.add_mul]; congr 1; omega
  rcases hrow with ⟨rfl, rfl, rfl⟩ | ⟨gb, cap, cur, zz, rfl, rfl, hle, hcm, hcs, htk, hfr⟩
  · have hx0 : xs = [] := List.eq_nil_of_length_eq_zero (by omega)
    subst hx0
    have hr := run_append_nil (P := P) w t ty e i z ht hi hzi ⟨b, o, none⟩ m c news hl' hnw hm (by omega) (by rw [hby]; exact Nat.le_trans (by simpa using hb) (by decide : 140737488355328 ≤ 281474976710656))
    rw [run_of hr]
    have hge := grownCap_ge w m 0 e
    have hcap : grownCap w m 0 e ≤ maxLen := grownCap_le_maxLen w m 0 e (by omega)
    refine hK _ _ _ ⟨[(w.heap.size, .cells (news.toArray ++ Builtin.zeroCells z.cells (grownCap w m 0 e - m)) e (0, 0))], ⟨hall, .inr ⟨w.heap.size, grownCap w m 0 e, _, (0, 0), by simp, rfl, by omega, hcap, ?_, ?_, free_zero _⟩⟩, rfl⟩ (fresh _ 0 _ _ rfl)
    · simp only [Array.size_append, size_zeroCells, hz1, List.size_toArray, hl]
      exact split _ _ hge
    · simp only [Array.toList_append, List.nil_append, Nat.zero_add]
      exact List.take_left' hl
  · have hg := hs1.get (gb, .cells cur e zz) (by simp)
    by_cases hroom : k + m ≤ cap
    · have hf := run_firstCells_some (P := P) w i.size m ⟨b, o, none⟩ m c news hl' hnw
      rw [hsz] at hf
      have hfit : k * sz + m * sz ≤ cap * sz := by rw [← Nat.add_mul]; exact Nat.mul_le_mul_right sz hroom
      have hst := run_storeCells_free (P := P) gb (k * sz) e zz news 0 cur w hg hfr (by rw [hl, hcs]; omega) h1
      simp only [Nat.add_zero] at hst
      have hr : (Builtin.append_ #[t, t] ty #[.slice (some ⟨gb, 0, none⟩) k cap, .slice (some ⟨b, o, none⟩) m c]).run P w = .ok (.slice (some ⟨gb, 0, none⟩) (k + m) cap) (w.setRow gb (over cur (k * sz) news)) := by
        simp [Builtin.append_, run_underlying ht, Go.sizeOf, typeInfo, hi, hsz, Builtin.lenOf, hroom, hf, add_addr, hst, over]
      rw [run_of hr]
      have hov : (over cur (k * sz) news).size = cap * sz := by
        unfold over; simp; omega
      refine hK _ _ _ ⟨[(gb, .cells (over cur (k * sz) news) e zz)], ⟨hall, .inr ⟨gb, cap, _, zz, rfl, rfl, hroom, hcm, hov, ?_, by rw [hov, ← hcs]; exact hfr⟩⟩, rfl⟩
        (hs1.upd (.here _) rfl rfl rfl (setRow_heap w gb cur _ e zz hg) fun k hk => setRow_other w gb k _ hk)
      unfold over
      rw [htk]
      simp only [List.append_assoc]
      rw [← List.append_assoc]
      exact List.take_left' hall
    · have holds : ∀ j v, xs[j]? = some v → w.cell? ((⟨gb, 0, none⟩ : Addr).add j) = some v := fun j v hj => by
        rw [add_addr]
        refine sat_cell hg ?_
        have hlt : j < xs.length := (List.getElem?_eq_some_iff.1 hj).1
        have : (cur.toList.take (k * sz))[j]? = some v := by rw [htk]; exact hj
        rw [List.getElem?_take, if_pos (by omega)] at this
        simpa using this
      have hr := run_append_grow (P := P) w t ty e i z ht hi hzi ⟨gb, 0, none⟩ k cap xs (by rw [hsz]; exact hxl) holds ⟨b, o, none⟩ m c news hl' hnw (by omega) (by omega) (growslice_fits (by omega) (by rw [hby]; exact hb))
      rw [run_of hr]
      have hge := grownCap_ge w (k + m) cap e
      have hcap : grownCap w (k + m) cap e ≤ maxLen := grownCap_le_maxLen w (k + m) cap e h63
      refine hK _ _ _ ⟨[(w.heap.size, .cells (xs.toArray ++ news.toArray ++ Builtin.zeroCells z.cells (grownCap w (k + m) cap e - (k + m))) e (0, 0))], ⟨hall, .inr ⟨w.heap.size, grownCap w (k + m) cap e, _, (0, 0), rfl, rfl, hge, hcap, ?_, ?_, free_zero _⟩⟩, rfl⟩ (fresh _ 0 _ _ rfl)
      · simp only [Array.size_append, size_zeroCells, hz1, List.size_toArray, hl, hxl]
        have := split _ _ hge
        rw [Nat.add_mul] at this
        exact this
      · simp only [Array.toList_append]
        exact List.take_left' (by simpa using hall)
theorem w_appendS {x y : Operand} {t e : TypeId} {i : TypeInfo} {z : Value} {by_ sz k : Nat} {v : Value} {xs : List Value} {s : List Chunk} {b o m c : Nat} {c1 : Array Value} {T1 : TypeId} {z1 : Nat × Nat} {news : List Value}
    (ht : P.underlying t = some (.slice e)) (hi : P.info? e = some i) (hsz : i.size = sz) (hby : i.bytes = by_) (hzi : i.zero = some z) (hz1 : z.cells.size = sz)
    (hx : ∀ a, ev a env x = v) (hrow : RowS sz e v k xs s) (hy : ∀ a, ev a env y = .slice (some ⟨b, o, none⟩) m c) (hone : One s H R) (hsrc : Has b (.cells c1 T1 z1) R) (hnews : CellsIn c1 o news) (hl : news.length = m * sz) (h1 : ∀ u ∈ news, u.oneCell' = true)
    (hm : 0 < m) (h63 : k + m ≤ maxLen) (hb : (k + m) * by_ ≤ 140737488355328) :
    OpW P u ⟨d, .call ⟨.builtin .append, #[x, y], #[t, t]⟩, ty, pos, af, g⟩ env H (fun v' H1 => ∃ s', RowS sz e v' (k + m) (xs ++ news) s' ∧ H1 = s' :: R) (fun _ _ => False) :=
  w_appendW ht hi hsz hby hzi hz1 hx hrow hy hone (fun w hs => cells_at (hs.get _ hsrc.mem) hnews) hl h1 hm h63 hb
theorem p_slice_slice_from1 {t e : TypeId} {x lo : Operand} {b o n cap l : Nat} {lk : IntKind} (hu : P.underlying t = some (.slice e)) (hs : ∀ w : World, (Go.sizeOf e).run P w = .ok 1 w) (hx : ∀ a, ev a env x = .slice (some ⟨b, o, none⟩) n cap) (hl : ∀ a, ev a env lo = .int lk (l : Int)) (h1 : l ≤ n) (h2 : l < cap) :
    OpP P ⟨d, .slice t x (some lo) none none, ty, pos, af, g⟩ env [] (.slice (some ⟨b, o + l, none⟩) (n - l) (cap - l)) := by
  have h := p_slice_slice_from (d := d) (ty := ty) (pos := pos) (af := af) (g := g) hu hs hx hl h1
  have e1 : cutAt (some ⟨b, o, none⟩) l cap 1 = some ⟨b, o + l, none⟩ := by
    unfold cutAt
    rw [if_neg (by omega), Option.map_some, add_addr, Nat.mul_one]
  rw [e1] at h
  exact h
end
end Gw


namespace Gw
open Go Go.RowKit
section
variable {P : Program} {u : World} {env : Env} {H R R2 : Hp} {d : Option Nat} {ty : TypeId} {pos : String} {af : Array Edge} {g : Option (Nat × Bool)}
theorem w_buildSlice0 {t e s : Nat} (hu : P.underlying t = some (.slice e)) (hs : ∀ w : World, (Go.sizeOf e).run P w = .ok s w) :
    OpW P u ⟨d, .buildSlice t 0 #[], ty, pos, af, g⟩ env H (fun v' H1 => ∃ b, v' = .slice (some ⟨b, 0, none⟩) 0 0 ∧ H1 = [(b, .cells ([] : List Value).toArray e (0, 0))] :: H) (fun _ _ => False) := fun a w hsat K Kp hK _ => by
  have hbs : (Instr.buildSlice t 0 (#[] : Array (Nat × Value))).run P w = .ok (.slice (some ⟨w.heap.size, 0, none⟩) 0 0) { w with heap := w.heap.push (.cells #[] e) } := by
    unfold Instr.buildSlice
    simp [Sem.run_bind, run_underlying hu, hs, Instr.fill, newRow]
    congr 2
    apply Array.ext <;> simp
  have : (execOp (ev a env) ⟨d, .buildSlice t 0 #[], ty, pos, af, g⟩).run P w = .ok (.value (.slice (some ⟨w.heap.size, 0, none⟩) 0 0)) { w with heap := w.heap.push (.cells #[] e) } := by
    rw [x_buildSlice, Sem.run_bind]
    have e0 : (#[] : Array (Nat × Operand)).map (fun (i, x) => (i, ev a env x)) = #[] := by simp
    rw [e0, hbs]; rfl
  rw [this]
  exact hK _ _ _ ⟨_, rfl, rfl⟩ (hsat.alloc _)
theorem One.has {b : Nat} {o : Obj} (h : One [(b, o)] H R) : Has b o H := by
  induction h with
  | here H => exact .here _
  | there t h ih => exact .there _ ih
theorem Row.le {e : TypeId} {v : Value} {xs : List Value} {s : List Chunk} (h : Row e v xs s) : ∃ b cap, v = .slice b xs.length cap ∧ xs.length ≤ cap := by
  rcases h with ⟨rfl, rfl, rfl⟩ | ⟨g, cap, cur, z, rfl, _, hle, _⟩
  · exact ⟨none, 0, rfl, Nat.le_refl _⟩
  · exact ⟨_, cap, rfl, hle⟩
theorem results_ct {t ty b j s : Nat} {fn : Func} {v x : Value} (hr : fn.results = #[.cell t ty, .tmp s]) {w : World} {tmps : Array Value} (hx : tmps.getD t undef = .pointer (some ⟨b, j, none⟩)) (hl : (loadVar ty ⟨b, j, none⟩).run P w = .ok v w) (hy : tmps.getD s undef = x) : (results fn tmps).run P w = .ok (.tuple #[v, x]) w := by
  rw [Array.getD_eq_getD_getElem?] at hx hy
  simp [results, hr, hx, hy, asAddr, hl]
theorem nx_endct {e : Exit} {N : Nat} {r : Option Nat} {fn : Func} {Q : Value → Hp → Prop} {Pn : List PanicEntry → Hp → Prop} {H' : Hp} {t ty b j s : Nat} {v x : Value} {o : Obj} (he : Leaves e = true) (hr : fn.results = #[.cell t ty, .tmp s]) (hv : ∀ a, look a env t = .pointer (some ⟨b, j, none⟩)) (hb : Has b o H) (hl : ∀ w : World, w.heap[b]? = some o → (loadVar ty ⟨b, j, none⟩).run P w = .ok v w) (hx : ∀ a, look a env s = x) (hq : Q (.tuple #[v, x]) H') (hp : Sub (H' ++ R) H := by repeat (first | exact Sub.refl _ | exact Sub.nil _ | (apply Sub.cons; (focus (repeat (first | exact One.here _ _ | apply One.there)))) | refine Sub.drop _ ?_)) : Nx ⟨N, [], u, r⟩ (bodyPost P fn (Post u R Q Pn) e) env H :=
  nx_end he (fun a w hs => results_ct hr (by rw [puts_look a env (by rw [hs.size]; exact hs.fit), hv a]) (hl w (hs.sat.get _ hb.mem)) (by rw [puts_look a env (by rw [hs.size]; exact hs.fit), hx a])) hq hp
theorem op_rm {ops : Array Oper} {l : List Oper} {cx : Cx} {Q : Exit → Act → World → Prop} {d : Nat} {op : Op} {v : Value} {cs : List Chunk} (hb : ∀ c ∈ cs, c ∈ H.flatten) (h : OpP P ⟨some d, op, ty, pos, af, none⟩ env cs v) (hn : notDefer op = true) (hd : Nat.blt d cx.N = true)
    (k : Ops P ops l cx Q ((d, v) :: env) H) : Ops P ops (⟨some d, op, ty, pos, af, none⟩ :: l) cx Q env H :=
  ops_eff (fun _ => rfl) (fun t ht => by cases ht; simpa using hd) hn (h.eff (u := cx.u) (H := H) hb) (by rintro _ _ ⟨rfl, rfl⟩; exact k) (fun _ _ h => h.elim)
theorem op_rmg {ops : Array Oper} {l : List Oper} {cx : Cx} {Q : Exit → Act → World → Prop} {d : Nat} {op : Op} {g : Nat × Bool} {v : Value} {cs : List Chunk} (hg : ∀ a, wantedE ops a env (some g) = true) (hb : ∀ c ∈ cs, c ∈ H.flatten) (h : OpP P ⟨some d, op, ty, pos, af, some g⟩ env cs v) (hn : notDefer op = true) (hd : Nat.blt d cx.N = true)
    (k : Ops P ops l cx Q ((d, v) :: env) H) : Ops P ops (⟨some d, op, ty, pos, af, some g⟩ :: l) cx Q env H :=
  ops_eff hg (fun t ht => by cases ht; simpa using hd) hn (h.eff (u := cx.u) (H := H) hb) (by rintro _ _ ⟨rfl, rfl⟩; exact k) (fun _ _ h => h.elim)
end
end Gw

namespace Gw
open Go Go.RowKit
section
variable {P : Program} {cx : Cx} {x y : Code} {Q : Exit → Act → World → Prop} {env : Env} {H : Hp}
/-- A cut, of the slots and segments that x turns: B and R stay. -/
theorem at_cutB {e0 B : Env} {H0 R : Hp} (I : Env → Hp → Prop) (hp : Pull H0 H R) (hx : At P cx x (Exit.then (fun a w => ∃ e H1 a0, I e H1 ∧ St cx (e ++ B) (H1 ++ R) a0 w ∧ a = puts (e ++ B) a0) Q) (e0 ++ B) (H0 ++ R)) (hy : ∀ e H1, I e H1 → At P cx y Q (e ++ B) (H1 ++ R)) : At P cx (.seq x y) Q (e0 ++ B) H := fun a w hs => by
  have hs' : St cx (e0 ++ B) (H0 ++ R) a w := ⟨hs.size, hs.defers, hs.fit, hs.sat.perm hp.perm⟩
  refine wpIn_seq (wpIn_mono (hx a w hs') fun e a' w' he => ?_)
  cases e <;> first | exact he | (obtain ⟨e', H', a0, hm, hs2, rfl⟩ := he; exact hy e' H' hm a0 w' hs2)
theorem nx_cutB {I : Env → Hp → Prop} {B e' : Env} {R H' : Hp} (h : I e' H') (hp : Sub (H' ++ R) H := by repeat (first | exact Sub.refl _ | exact Sub.nil _ | (apply Sub.cons; (focus (repeat (first | exact One.here _ _ | apply One.there)))) | refine Sub.drop _ ?_)) : Nx cx ((Exit.then (fun a w => ∃ e H1 a0, I e H1 ∧ St cx (e ++ B) (H1 ++ R) a0 w ∧ a = puts (e ++ B) a0) Q) .normal) (e' ++ B) H := fun a _ hs => ⟨e', H', a, h, ⟨hs.size, hs.defers, hs.fit, hs.sat.sub hp.amid⟩, rfl⟩
end
end Gw


namespace Gw
open Go Go.RowKit Go.Sort
section
variable {P : Program} {u : World} {env : Env} {H R : Hp} {d : Option Nat} {ty : TypeId} {pos : String} {af : Array Edge} {g : Option (Nat × Bool)}
end
/-- The memory behind a sort of a row. -/
theorem Sat.sorted {u w : World} {g n : Nat} {cur : Array Value} {e : TypeId} {z : Nat × Nat} {R : Hp} (d : Array Int) (os : Array Obj) (h : Sat u ([(g, .cells cur e z)] :: R) w) : Sat u ([(g, .cells (putCells (Value.int .i64) 0 d cur) e z)] :: R) (grow (putRow (Value.int .i64) (Sort.ahead w n) g 0 d) os) := by
  have hb := h.get (g, .cells cur e z) (by simp)
  have hg : g < w.heap.size := (Array.getElem?_eq_some_iff.1 hb).1
  have h1 : Sat u ([(g, .cells (putCells (Value.int .i64) 0 d cur) e z)] :: R) (putRow (Value.int .i64) (Sort.ahead w n) g 0 d) := by
    refine h.upd (.here _) rfl rfl rfl ?_ fun k hk => ?_
    · simp [putRow, mapBlock, Sort.ahead, Array.getElem?_modify, hb, onCells]
    · have : g ≠ k := fun e => hk e.symm
      simp [putRow, mapBlock, Sort.ahead, Array.getElem?_modify, this]
  exact h1.below ⟨rfl, rfl, rfl, by simp [grow], fun k hk => heap_grow_old _ _ hk⟩
/-- Segment s1 ++ s2 of H is cut in two. -/
inductive CutA (s1 s2 : List Chunk) : Hp → Hp → Prop
  | here (H : Hp) : CutA s1 s2 ((s1 ++ s2) :: H) (s1 :: s2 :: H)
  | there {H H' : Hp} (t : List Chunk) (h : CutA s1 s2 H H') : CutA s1 s2 (t :: H) (t :: H')
theorem CutA.flat {s1 s2 : List Chunk} {H H' : Hp} (h : CutA s1 s2 H H') : H.flatten = H'.flatten := by
  induction h with
  | here H => simp
  | there t h ih => simp only [List.flatten_cons, ih]
theorem at_cutA {P : Program} {cx : Cx} {cd : Code} {Q : Exit → Act → World → Prop} {env : Env} {s1 s2 : List Chunk} {H H' : Hp} (h : CutA s1 s2 H H') (k : At P cx cd Q env H') : At P cx cd Q env H := at_flat h.flat k
/-- Two segments are brought together at the head. -/
theorem at_join {P : Program} {cx : Cx} {cd : Code} {Q : Exit → Act → World → Prop} {env : Env} {s1 s2 : List Chunk} {H R1 R2 : Hp} (h1 : One s1 H R1) (h2 : One s2 R1 R2) (k : At P cx cd Q env ((s1 ++ s2) :: R2)) : At P cx cd Q env H := fun a w hs =>
  k a w ⟨hs.size, hs.defers, hs.fit, hs.sat.perm (by
    simp only [List.flatten_cons, List.append_assoc]
    exact h1.perm.trans (List.Perm.append_left s1 h2.perm))⟩
end Gw


namespace Gw
open Go Go.RowKit
/-- Three numbers. -/
structure V3 where
  a : Int
  b : Int
  c : Int
deriving DecidableEq
def V3.zero : V3 := ⟨0, 0, 0⟩
theorem V3.eq_iff (x y : V3) : x = y ↔ (x.a = y.a ∧ x.b = y.b ∧ x.c = y.c) := by
  constructor
  · rintro rfl; exact ⟨rfl, rfl, rfl⟩
  · cases x; cases y; rintro ⟨h1, h2, h3⟩; simp only at h1 h2 h3; rw [h1, h2, h3]
section
variable {P : Program} {u : World} {env : Env} {H R : Hp} {d : Option Nat} {ty : TypeId} {pos : String} {af : Array Edge} {g : Option (Nat × Bool)}
theorem eq_int1 {e : TypeId} (n : Nat) (w : World) (he : P.underlying e = some (.int .i64)) (m k : Int) : (Op.equalIn (n + 1) e (.int .i64 m) (.int .i64 k)).run P w = .ok (decide (m = k)) w := by
  simp [Op.equalIn, run_underlying he]
  by_cases h : m = k <;> simp [h]
theorem part_int1 {e : TypeId} (w : World) (ha : (isAgg e).run P w = .ok false w) (xs : Array Value) (j : Nat) {v : Value} (h : xs[j]? = some v) : (part e xs j).run P w = .ok v w := by
  simp [part, ha, h]
theorem eq_arr3 {t e : TypeId} (w : World) (n : Nat) (x y : V3) (hu : P.underlying t = some (.array 3 e)) (he : P.underlying e = some (.int .i64)) (ha : ∀ w : World, (isAgg e).run P w = .ok false w) (hs : ∀ w : World, (Go.sizeOf e).run P w = .ok 1 w) :
    (Op.equalIn (n + 2) t (.agg #[.int .i64 x.a, .int .i64 x.b, .int .i64 x.c]) (.agg #[.int .i64 y.a, .int .i64 y.b, .int .i64 y.c])).run P w = .ok (decide (x = y)) w := by
  have ei : ∀ (m k : Int) (w : World), (Op.equalIn (n + 1) e (.int .i64 m) (.int .i64 k)).run P w = .ok (decide (m = k)) w := fun m k w => eq_int1 n w he m k
  have p0 : ∀ (v0 v1 v2 : Value) (w : World), (part e #[v0, v1, v2] 0).run P w = .ok v0 w := fun _ _ _ w => part_int1 w (ha w) _ _ rfl
  have p1 : ∀ (v0 v1 v2 : Value) (w : World), (part e #[v0, v1, v2] 1).run P w = .ok v1 w := fun _ _ _ w => part_int1 w (ha w) _ _ rfl
  have p2 : ∀ (v0 v1 v2 : Value) (w : World), (part e #[v0, v1, v2] 2).run P w = .ok v2 w := fun _ _ _ w => part_int1 w (ha w) _ _ rfl
  rw [show n + 2 = (n + 1) + 1 from rfl, Op.equalIn]
  generalize n + 1 = m at *
  simp only [Sem.run_bind, run_underlying hu, Result.andThen_ok, hs]
  simp only [Std.Legacy.Range.forIn_eq_forIn_range', Std.Legacy.Range.size, Nat.sub_zero, Nat.add_sub_cancel, Nat.div_one, List.range'_succ, List.range'_zero, List.forIn_cons, List.forIn_nil]
  simp only [Sem.run_bind, p0, p1, p2, ei, Result.andThen_ok, Nat.zero_add, Nat.mul_one, Nat.one_mul, Nat.zero_mul, V3.eq_iff]
  by_cases h1 : x.a = y.a <;> by_cases h2 : x.b = y.b <;> by_cases h3 : x.c = y.c <;> simp [h1, h2, h3, p0, p1, p2, ei]
theorem bin_eql_agg {t : TypeId} (p q : Array Value) : binOp .eql t (.agg p) (.agg q) = (do pure (.bool (← Op.equal t (.agg p) (.agg q)))) := rfl
theorem bin_neq_agg {t : TypeId} (p q : Array Value) : binOp .neq t (.agg p) (.agg q) = (do pure (.bool (!(← Op.equal t (.agg p) (.agg q))))) := rfl
section
variable {t yt e : TypeId} {x y : Operand} {p q : V3}
theorem p_eql_arr3 (hg : P.eqGuardType P.depth t = false) (hu : P.underlying t = some (.array 3 e)) (he : P.underlying e = some (.int .i64)) (ha : ∀ w : World, (isAgg e).run P w = .ok false w) (hs : ∀ w : World, (Go.sizeOf e).run P w = .ok 1 w)
    (hx : ∀ a, ev a env x = .agg #[.int .i64 p.a, .int .i64 p.b, .int .i64 p.c]) (hy : ∀ a, ev a env y = .agg #[.int .i64 q.a, .int .i64 q.b, .int .i64 q.c]) : OpP P ⟨d, .binOp .eql t x y yt, ty, pos, af, g⟩ env [] (.bool (decide (p = q))) := fun a w _ => by
  simp [x_binOp, hx a, hy a, go_sem, run_eqGuard_agg w _ t _ _ _ _ hg, bin_eql_agg, Op.equal, Op.maxDepth, eq_arr3 w 9998 p q hu he ha hs]
theorem p_neq_arr3 (hg : P.eqGuardType P.depth t = false) (hu : P.underlying t = some (.array 3 e)) (he : P.underlying e = some (.int .i64)) (ha : ∀ w : World, (isAgg e).run P w = .ok false w) (hs : ∀ w : World, (Go.sizeOf e).run P w = .ok 1 w)
    (hx : ∀ a, ev a env x = .agg #[.int .i64 p.a, .int .i64 p.b, .int .i64 p.c]) (hy : ∀ a, ev a env y = .agg #[.int .i64 q.a, .int .i64 q.b, .int .i64 q.c]) : OpP P ⟨d, .binOp .neq t x y yt, ty, pos, af, g⟩ env [] (.bool (decide (p ≠ q))) := fun a w _ => by
  simp [x_binOp, hx a, hy a, go_sem, run_eqGuard_agg w _ t _ _ _ _ hg, bin_neq_agg, Op.equal, Op.maxDepth, eq_arr3 w 9998 p q hu he ha hs]
theorem p_eql_arr3z (hg : P.eqGuardType P.depth t = false) (hu : P.underlying t = some (.array 3 e)) (he : P.underlying e = some (.int .i64)) (ha : ∀ w : World, (isAgg e).run P w = .ok false w) (hs : ∀ w : World, (Go.sizeOf e).run P w = .ok 1 w)
    (hx : ∀ a, ev a env x = .agg #[.int .i64 p.a, .int .i64 p.b, .int .i64 p.c]) (hy : ∀ a, ev a env y = .agg #[.int .i64 0, .int .i64 0, .int .i64 0]) : OpP P ⟨d, .binOp .eql t x y yt, ty, pos, af, g⟩ env [] (.bool (decide (p = V3.zero))) := p_eql_arr3 (q := V3.zero) hg hu he ha hs hx hy
theorem p_neq_arr3z (hg : P.eqGuardType P.depth t = false) (hu : P.underlying t = some (.array 3 e)) (he : P.underlying e = some (.int .i64)) (ha : ∀ w : World, (isAgg e).run P w = .ok false w) (hs : ∀ w : World, (Go.sizeOf e).run P w = .ok 1 w)
    (hx : ∀ a, ev a env x = .agg #[.int .i64 p.a, .int .i64 p.b, .int .i64 p.c]) (hy : ∀ a, ev a env y = .agg #[.int .i64 0, .int .i64 0, .int .i64 0]) : OpP P ⟨d, .binOp .neq t x y yt, ty, pos, af, g⟩ env [] (.bool (decide (p ≠ V3.zero))) := p_neq_arr3 (q := V3.zero) hg hu he ha hs hx hy
end
end
def V3.get (v : V3) (i : Nat) : Int := if i = 0 then v.a else if i = 1 then v.b else v.c
theorem v3_at (x y : Value) (v : V3) (i : Nat) (h : i < 3) : (#[x, y, Value.int .i64 v.a, .int .i64 v.b, .int .i64 v.c] : Array Value)[2 + i]? = some (.int .i64 (v.get i)) := by
  rcases i with _ | _ | _ | i
  · rfl
  · rfl
  · rfl
  · omega
def inV (n : Int) : Prop := -1000000000 ≤ n ∧ n ≤ 1000000000
instance (n : Int) : Decidable (inV n) := inferInstanceAs (Decidable (_ ∧ _))
def V3.ok (v : V3) : Prop := inV v.a ∧ inV v.b ∧ inV v.c
instance (v : V3) : Decidable v.ok := inferInstanceAs (Decidable (_ ∧ _ ∧ _))
theorem v3_ok {v : V3} : v.ok ↔ ∀ i, i < 3 → inV (v.get i) := by
  constructor
  · rintro ⟨h1, h2, h3⟩ i hi
    rcases i with _ | _ | _ | i
    · exact h1
    · exact h2
    · exact h3
    · omega
  · intro h; exact ⟨h 0 (by omega), h 1 (by omega), h 2 (by omega)⟩
theorem v3_more {v : V3} {i : Nat} (h : ∀ j, j < i → inV (v.get j)) (hi : inV (v.get i)) : ∀ j, j < i + 1 → inV (v.get j) := by
  intro j hj
  rcases Nat.lt_or_ge j i with h9 | h9
  · exact h j h9
  · have e : j = i := by omega
    rw [e]; exact hi
end Gw
