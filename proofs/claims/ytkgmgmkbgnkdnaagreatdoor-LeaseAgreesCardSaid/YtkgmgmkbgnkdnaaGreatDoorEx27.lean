/- Walking by chunks: elements of several cells: copy, append of zero elements, clear of a part, a part of an own row overwritten; slices.overlaps. No function of the program is named. -/
import Derived.Test.YtkgmgmkbgnkdnaaGreatDoorEz
import Derived.Test.YtkgmgmkbgnkdnaaGreatDoorEx25
import Derived.Test.YtkgmgmkbgnkdnaaGreatDoorEx5
import Derived.Lib.AppendZerosOnto
import Derived.Lib.Overlaps

namespace Gw
open Go Go.RowKit
theorem over_len {c : Array Value} {i : Nat} {ys : List Value} (h : i + ys.length ≤ c.size) : (over c i ys).size = c.size := by
  unfold over
  simp only [List.size_toArray, List.length_append, List.length_take, List.length_drop, Array.length_toList]
  omega
theorem rowS_over {sz : Nat} {e : TypeId} {g k cap : Nat} {cur : Array Value} {z : Nat × Nat} {xs ys : List Value} {i : Nat} (h : RowS sz e (.slice (some ⟨g, 0, none⟩) k cap) k xs [(g, .cells cur e z)]) (hi : i + ys.length ≤ xs.length) :
    RowS sz e (.slice (some ⟨g, 0, none⟩) k cap) k (xs.take i ++ ys ++ xs.drop (i + ys.length)) [(g, .cells (over cur i ys) e z)] := by
  obtain ⟨hl, ⟨h1, _⟩ | ⟨g', cap', cur', z', h1, h2, hle, hcm, hcs, htk, hfr⟩⟩ := h
  · injection h1 with h1; cases h1
  injection h1 with h3 _ h4
  injection h3 with h3
  injection h3 with h3
  injection h2 with h2 _
  injection h2 with _ h2
  injection h2 with h5 _ h6
  subst h3 h4 h5 h6
  have hle2 : k * sz ≤ cap * sz := Nat.mul_le_mul_right sz hle
  have hlt : cur.toList.length = cap * sz := by rw [Array.length_toList, hcs]
  have e1 : cur.toList = xs ++ cur.toList.drop (k * sz) := by rw [← htk, List.take_append_drop]
  refine ⟨?_, .inr ⟨g, cap, _, z, rfl, rfl, hle, hcm, ?_, ?_, ?_⟩⟩
  · simp only [List.length_append, List.length_take, List.length_drop]; omega
  · rw [over_len (by rw [hcs]; omega), hcs]
  · show (over cur i ys).toList.take (k * sz) = _
    unfold over
    show (cur.toList.take i ++ ys ++ cur.toList.drop (i + ys.length)).take (k * sz) = _
    have t1 : cur.toList.take i = xs.take i := by
      conv => lhs; rw [e1]
      exact List.take_append_of_le_length (by omega)
    have t2 : cur.toList.drop (i + ys.length) = xs.drop (i + ys.length) ++ cur.toList.drop (k * sz) := by
      conv => lhs; rw [e1]
      exact List.drop_append_of_le_length (by omega)
    rw [t1, t2, ← List.append_assoc]
    refine List.take_left' ?_
    simp only [List.length_append, List.length_take, List.length_drop]; omega
  · show Free z (over cur i ys).size
    rw [over_len (by rw [hcs]; omega)]; exact hfr
theorem rowS_less {sz : Nat} {e : TypeId} {g k cap : Nat} {xs : List Value} {s : List Chunk} (h : RowS sz e (.slice (some ⟨g, 0, none⟩) k cap) k xs s) (i : Nat) (hi : i ≤ k) : RowS sz e (.slice (some ⟨g, 0, none⟩) i cap) i (xs.take (i * sz)) s := by
  obtain ⟨hl, ⟨h1, _⟩ | ⟨g', cap', cur', z', h1, rfl, hle, hcm, hcs, htk, hfr⟩⟩ := h
  · injection h1 with h1; cases h1
  injection h1 with h3 _ h4
  injection h3 with h3
  injection h3 with h3
  subst h3 h4
  have h5 : i * sz ≤ k * sz := Nat.mul_le_mul_right sz hi
  refine ⟨by rw [List.length_take]; omega, .inr ⟨g, cap, cur', z', rfl, rfl, by omega, hcm, hcs, ?_, hfr⟩⟩
  rw [← htk, List.take_take, Nat.min_eq_left h5]
theorem rowS_in {sz : Nat} {e : TypeId} {g k cap : Nat} {cur : Array Value} {z : Nat × Nat} {xs : List Value} (h : RowS sz e (.slice (some ⟨g, 0, none⟩) k cap) k xs [(g, .cells cur e z)]) : CellsIn cur 0 xs ∧ cur.size = cap * sz ∧ k ≤ cap ∧ cap ≤ maxLen ∧ Free z cur.size := by
  obtain ⟨hl, ⟨h1, _⟩ | ⟨g', cap', cur', z', h1, h2, hle, hcm, hcs, htk, hfr⟩⟩ := h
  · injection h1 with h1; cases h1
  injection h1 with h3 _ h4
  injection h2 with h2 _
  injection h2 with _ h2
  injection h2 with h5 _ h6
  subst h4 h5 h6
  exact ⟨by unfold CellsIn; rw [List.drop_zero, hl]; exact htk, hcs, hle, hcm, hfr⟩
theorem rowS_more {sz : Nat} {e : TypeId} {g k cap : Nat} {cur : Array Value} {z : Nat × Nat} {xs : List Value} (h : RowS sz e (.slice (some ⟨g, 0, none⟩) k cap) k xs [(g, .cells cur e z)]) (m : Nat) (hm : k ≤ m) (hmc : m ≤ cap) : ∃ ys, ys.length = (m - k) * sz ∧ RowS sz e (.slice (some ⟨g, 0, none⟩) m cap) m (xs ++ ys) [(g, .cells cur e z)] := by
  obtain ⟨hin, hcs, hle, hcm, hfr⟩ := rowS_in h
  have hl := h.1
  have h1 : m * sz ≤ cap * sz := Nat.mul_le_mul_right sz hmc
  have h2 : k * sz + (m - k) * sz = m * sz := by rw [← Nat.add_mul]; congr 1; omega
  unfold CellsIn at hin
  rw [List.drop_zero, hl] at hin
  refine ⟨(cur.toList.drop (k * sz)).take ((m - k) * sz), by rw [List.length_take, List.length_drop, Array.length_toList, hcs]; omega, ?_, .inr ⟨g, cap, cur, z, rfl, rfl, hmc, hcm, hcs, ?_, hfr⟩⟩
  · have hlt : cur.toList.length = cap * sz := by rw [Array.length_toList, hcs]
    rw [List.length_append, List.length_take, List.length_drop, hlt, hl]; omega
  · conv => rhs; rw [← hin]
    rw [← h2, List.take_add]
theorem cellsIn_part {c : Array Value} {o : Nat} {xs : List Value} (h : CellsIn c o xs) (i m : Nat) (hm : i + m ≤ xs.length) : CellsIn c (o + i) ((xs.drop i).take m) := by
  unfold CellsIn at *
  rw [List.length_take, List.length_drop, Nat.min_eq_left (by omega)]
  conv => rhs; rw [← h]
  rw [List.drop_take, List.take_take, Nat.min_eq_left (by omega), List.drop_drop]
theorem zeroCells_ones (z : Value) (m : Nat) (h : ∀ u ∈ z.cells.toList, u.oneCell' = true) : ∀ y ∈ (Builtin.zeroCells z.cells m).toList, y.oneCell' = true := by
  intro y hy
  simp only [Builtin.zeroCells, Array.mem_toList_iff, Array.mem_map, Array.mem_range] at hy
  obtain ⟨j, hj, rfl⟩ := hy
  refine h _ ?_
  have hpos : 0 < z.cells.size := by
    rcases Nat.eq_zero_or_pos z.cells.size with h9 | h9
    · rw [h9] at hj; omega
    · exact h9
  have hlt : j % z.cells.size < z.cells.size := Nat.mod_lt _ hpos
  rw [getElem!_pos z.cells (j % z.cells.size) hlt]
  exact Array.mem_toList_iff.2 (Array.getElem_mem hlt)
section
variable {P : Program} {u : World} {env : Env} {H H' R R2 : Hp} {d : Option Nat} {ty : TypeId} {pos : String} {af : Array Edge} {g : Option (Nat × Bool)}
theorem w_copyS {x y : Operand} {dT sT e : TypeId} {sz b o n cap b' o' n' cap' : Nat} {c c1 : Array Value} {T T1 : TypeId} {z z1 : Nat × Nat} {cs : List Value}
    (hu : P.underlying dT = some (.slice e)) (hs : ∀ w : World, (Go.sizeOf e).run P w = .ok sz w) (hx : ∀ a, ev a env x = .slice (some ⟨b, o, none⟩) n cap) (hy : ∀ a, ev a env y = .slice (some ⟨b', o', none⟩) n' cap')
    (hsrc : Has b' (.cells c1 T1 z1) H) (hone : One [(b, .cells c T z)] H R) (hcs : CellsIn c1 o' cs) (hn : cs.length = min n' n * sz) (hfit : o + cs.length ≤ c.size) (hz : Free z c.size) (h1 : ∀ v ∈ cs, v.oneCell' = true) :
    OpW P u ⟨d, .call ⟨.builtin .copy, #[x, y], #[dT, sT]⟩, ty, pos, af, g⟩ env H (fun v H1 => v = .int .i64 ((min n' n : Nat) : Int) ∧ H1 = [(b, .cells (over c o cs) T z)] :: R) (fun _ _ => False) := fun a w hsat K Kp hK _ => by
  have hs1 : Sat u ([(b, .cells c T z)] :: R) w := hsat.perm (by simpa using hone.perm)
  have hb := hs1.get (b, .cells c T z) (by simp)
  have hb' := hsat.get _ hsrc.mem
  have hl := run_loadCells_list (P := P) w ⟨b', o', none⟩ cs (cells_at hb' hcs)
  rw [hn] at hl
  have hst := run_storeCells_free (P := P) b o T z cs 0 c w hb hz (by simpa using hfit) h1
  simp only [Nat.add_zero] at hst
  have hmin : Nat.min n' n = min n' n := rfl
  have : (execOp (ev a env) ⟨d, .call ⟨.builtin .copy, #[x, y], #[dT, sT]⟩, ty, pos, af, g⟩).run P w = .ok (.value (.int .i64 ((min n' n : Nat) : Int))) (w.setRow b (over c o cs)) := by
    simp [x_call, resolve, invoke, builtin, hx a, hy a, Builtin.copy_, run_underlying hu, Builtin.lenOf, Builtin.firstCells, hs, hmin, hl, hst, over, goInt]
  rw [this]
  exact hK _ _ _ ⟨rfl, rfl⟩ (hs1.upd (.here _) rfl rfl rfl (setRow_heap w b c _ T z hb) fun k hk => setRow_other w b k _ hk)
theorem w_append_zerosS {x y : Operand} {t ti e T : TypeId} {i : TypeInfo} {z : Value} {by_ sz k m cap gb : Nat} {cur : Array Value} {zz : Nat × Nat} {xs : List Value}
    (ht : P.underlying t = some (.slice e)) (hti : P.underlying ti = some (.int .i64)) (hi : P.info? e = some i) (hsz : i.size = sz) (hby : i.bytes = by_) (hzi : i.zero = some z) (hz1 : z.cells.size = sz)
    (hx : ∀ a, ev a env x = .slice (some ⟨gb, 0, none⟩) k cap) (hy : ∀ a, ev a env y = .int .i64 (m : Int)) (hhas : Has gb (.cells cur T zz) H) (hin : CellsIn cur 0 xs) (hxl : xs.length = k * sz) (h0 : 0 < m) (hs0 : 0 < sz) (hg : cap < k + m) (h63 : k + m ≤ maxLen) (hb : (k + m) * by_ ≤ 140737488355328) :
    OpW P u ⟨d, .call ⟨.builtin .append, #[x, y], #[t, ti]⟩, ty, pos, af, g⟩ env H (fun v' H1 => ∃ s', RowS sz e v' (k + m) (xs ++ (Builtin.zeroCells z.cells m).toList) s' ∧ H1 = s' :: H) (fun _ _ => False) := fun a w hsat K Kp hK _ => by
  have hml : maxLen = 9223372036854775807 := rfl
  have hl := run_loadCells_list (P := P) w.drew ⟨gb, 0, none⟩ xs (cells_at (hsat.drew.get _ hhas.mem) hin)
  rw [hxl] at hl
  have hold : (Builtin.firstCells i.size k (.slice (some ⟨gb, 0, none⟩) k cap)).run P w.drew = .ok xs.toArray w.drew := by
    rw [hsz]; simp [Builtin.firstCells, hl]
  have hmb : m * by_ ≤ (k + m) * by_ := Nat.mul_le_mul_right _ (by omega)
  have hr := Lib.run_append_grow_zeros (P := P) w t ti ty e i z .i64 .i64 ht hti hi hzi (some ⟨gb, 0, none⟩) k cap xs hold m h0 (by omega) hg (by omega) (by rw [hby]; omega) (growslice_fits (by omega) (by rw [hby]; exact hb))
  have run_of : ∀ {v' : Value} {w' : World}, (Builtin.append_ #[t, ti] ty #[.slice (some ⟨gb, 0, none⟩) k cap, .int .i64 (m : Int)]).run P w = .ok v' w' → (execOp (ev a env) ⟨d, .call ⟨.builtin .append, #[x, y], #[t, ti]⟩, ty, pos, af, g⟩).run P w = .ok (.value v') w' := fun h => by
    simp only [x_call, resolve, invoke, builtin, List.map_toArray, List.map_cons, List.map_nil, hx a, hy a, Sem.run_bind, Sem.run_pure, Result.andThen_ok, h]
  rw [run_of hr]
  have hge := grownCap_ge w (k + m) cap e
  have hcap : grownCap w (k + m) cap e ≤ maxLen := grownCap_le_maxLen w (k + m) cap e h63
  have hall : (xs ++ (Builtin.zeroCells z.cells m).toList).length = (k + m) * sz := by
    have hzl : (Builtin.zeroCells z.cells m).toList.length = m * sz := by rw [Array.length_toList, size_zeroCells, hz1]
    rw [List.length_append, hzl, hxl, Nat.add_mul]
  refine hK _ _ _ ⟨[(w.heap.size, .cells (xs.toArray ++ Builtin.zeroCells z.cells m ++ Builtin.zeroCells z.cells (grownCap w (k + m) cap e - (k + m))) e (0, 0))], ⟨hall, .inr ⟨w.heap.size, grownCap w (k + m) cap e, _, (0, 0), rfl, rfl, hge, hcap, ?_, ?_, free_zero _⟩⟩, rfl⟩ (hsat.drew.alloc _)
  · simp only [Array.size_append, size_zeroCells, hz1, List.size_toArray, hxl]
    rw [← Nat.add_mul, ← Nat.add_mul]; congr 1; omega
  · simp only [Array.toList_append]
    exact List.take_left' hall
theorem w_clear_subS {x : Operand} {t e : TypeId} {i : TypeInfo} {z : Value} {sz gb k cap m c : Nat} {cur : Array Value} {T : TypeId} {zz : Nat × Nat}
    (ht : P.underlying t = some (.slice e)) (hi : P.info? e = some i) (hzi : i.zero = some z) (hz1 : z.cells.size = sz) (hzo : ∀ u ∈ z.cells.toList, u.oneCell' = true)
    (hx : ∀ a, ev a env x = .slice (cutAt (some ⟨gb, 0, none⟩) k cap sz) m c) (hm : k + m ≤ cap) (hcs : cur.size = cap * sz) (hfr : Free zz cur.size) (hone : One [(gb, .cells cur T zz)] H R) :
    OpW P u ⟨d, .call ⟨.builtin .clear, #[x], #[t]⟩, ty, pos, af, g⟩ env H (fun _ H1 => H1 = [(gb, .cells (over cur (k * sz) (Builtin.zeroCells z.cells m).toList) T zz)] :: R) (fun _ _ => False) := fun a w hsat K Kp hK _ => by
  have hs1 : Sat u ([(gb, .cells cur T zz)] :: R) w := hsat.perm (by simpa using hone.perm)
  have run_of : ∀ {v' : Value} {w' : World}, (Builtin.clear_ #[t] ty #[.slice (cutAt (some ⟨gb, 0, none⟩) k cap sz) m c]).run P w = .ok v' w' → (execOp (ev a env) ⟨d, .call ⟨.builtin .clear, #[x], #[t]⟩, ty, pos, af, g⟩).run P w = .ok (.value v') w' := fun h => by
    simp only [x_call, resolve, invoke, builtin, List.map_toArray, List.map_cons, List.map_nil, hx a, Sem.run_bind, Sem.run_pure, Result.andThen_ok, h]
  rcases Nat.eq_zero_or_pos m with h0 | h0
  · subst h0
    have hr : (Builtin.clear_ #[t] ty #[.slice (cutAt (some ⟨gb, 0, none⟩) k cap sz) 0 c]).run P w = .ok (.tuple #[]) w := by
      have : ∃ q, cutAt (some ⟨gb, 0, none⟩) k cap sz = some q := by unfold cutAt; split <;> exact ⟨_, rfl⟩
      obtain ⟨q, hq⟩ := this
      rw [hq]
      simp [Builtin.clear_, run_underlying ht]
    rw [run_of hr]
    refine hK _ _ _ rfl ?_
    have : (Builtin.zeroCells z.cells 0).toList = [] := List.eq_nil_of_length_eq_zero (by rw [Array.length_toList, size_zeroCells]; simp)
    rw [this, over_nil]
    exact hs1
  · have hq : cutAt (some ⟨gb, 0, none⟩) k cap sz = some ⟨gb, k * sz, none⟩ := by
      unfold cutAt; rw [if_neg (by omega), Option.map_some, add_addr, Nat.zero_add]
    have hg := hs1.get (gb, .cells cur T zz) (by simp)
    have hzl : (Builtin.zeroCells z.cells m).toList.length = m * sz := by rw [Array.length_toList, size_zeroCells, hz1]
    have hzone : ∀ y ∈ (Builtin.zeroCells z.cells m).toList, y.oneCell' = true := zeroCells_ones z m hzo
    have hfit : k * sz + m * sz ≤ cap * sz := by rw [← Nat.add_mul]; exact Nat.mul_le_mul_right _ hm
    have hst := run_storeCells_free (P := P) gb (k * sz) T zz (Builtin.zeroCells z.cells m).toList 0 cur w hg hfr (by rw [hzl, hcs]; omega) hzone
    have hr : (Builtin.clear_ #[t] ty #[.slice (cutAt (some ⟨gb, 0, none⟩) k cap sz) m c]).run P w = .ok (.tuple #[]) (w.setRow gb (over cur (k * sz) (Builtin.zeroCells z.cells m).toList)) := by
      rw [hq]
      obtain ⟨m', rfl⟩ : ∃ m', m = m' + 1 := ⟨m - 1, by omega⟩
      simp [Builtin.clear_, run_underlying ht, run_zeroValue hi hzi, over] at hst ⊢
      simp [hst]
    rw [run_of hr]
    exact hK _ _ _ rfl (hs1.upd (.here _) rfl rfl rfl (setRow_heap w gb cur _ T zz hg) fun k hk => setRow_other w gb k _ hk)
theorem p_slice_slice_fromS {t e : TypeId} {x lo : Operand} {b o n cap l sz : Nat} {lk : IntKind} (hu : P.underlying t = some (.slice e)) (hs : ∀ w : World, (Go.sizeOf e).run P w = .ok sz w) (hx : ∀ a, ev a env x = .slice (some ⟨b, o, none⟩) n cap) (hl : ∀ a, ev a env lo = .int lk (l : Int)) (h1 : l ≤ n) (h2 : l < cap) :
    OpP P ⟨d, .slice t x (some lo) none none, ty, pos, af, g⟩ env [] (.slice (some ⟨b, o + l * sz, none⟩) (n - l) (cap - l)) := by
  have h := p_slice_slice_from (d := d) (ty := ty) (pos := pos) (af := af) (g := g) hu hs hx hl h1
  have e1 : cutAt (some ⟨b, o, none⟩) l cap sz = some ⟨b, o + l * sz, none⟩ := by
    unfold cutAt
    rw [if_neg (by omega), Option.map_some, add_addr]
  rwa [e1] at h
theorem results_ctt {t ty b j s1 s2 : Nat} {fn : Func} {v x y : Value} (hr : fn.results = #[.cell t ty, .tmp s1, .tmp s2]) {w : World} {tmps : Array Value} (hx : tmps.getD t undef = .pointer (some ⟨b, j, none⟩)) (hl : (loadVar ty ⟨b, j, none⟩).run P w = .ok v w) (hy : tmps.getD s1 undef = x) (hz : tmps.getD s2 undef = y) : (results fn tmps).run P w = .ok (.tuple #[v, x, y]) w := by
  rw [Array.getD_eq_getD_getElem?] at hx hy hz
  simp [results, hr, hx, hy, hz, asAddr, hl]
theorem nx_endctt {e : Exit} {N : Nat} {r : Option Nat} {fn : Func} {Q : Value → Hp → Prop} {Pn : List PanicEntry → Hp → Prop} {H' : Hp} {t ty b j s1 s2 : Nat} {v x y : Value} {o : Obj} (he : Leaves e = true) (hr : fn.results = #[.cell t ty, .tmp s1, .tmp s2]) (hv : ∀ a, look a env t = .pointer (some ⟨b, j, none⟩)) (hb : Has b o H) (hl : ∀ w : World, w.heap[b]? = some o → (loadVar ty ⟨b, j, none⟩).run P w = .ok v w) (hx : ∀ a, look a env s1 = x) (hy : ∀ a, look a env s2 = y) (hq : Q (.tuple #[v, x, y]) H') (hp : Sub (H' ++ R) H := by repeat (first | exact Sub.refl _ | exact Sub.nil _ | (apply Sub.cons; (focus (repeat (first | exact One.here _ _ | apply One.there)))) | refine Sub.drop _ ?_)) : Nx ⟨N, [], u, r⟩ (bodyPost P fn (Post u R Q Pn) e) env H :=
  nx_end he (fun a w hs => results_ctt hr (by rw [puts_look a env (by rw [hs.size]; exact hs.fit), hv a]) (hl w (hs.sat.get _ hb.mem)) (by rw [puts_look a env (by rw [hs.size]; exact hs.fit), hx a]) (by rw [puts_look a env (by rw [hs.size]; exact hs.fit), hy a])) hq hp
theorem results_four {t s q k : Nat} {fn : Func} (hr : fn.results = #[.tmp t, .tmp s, .tmp q, .tmp k]) (w : World) (tmps : Array Value) : (results fn tmps).run P w = .ok (.tuple #[tmps.getD t undef, tmps.getD s undef, tmps.getD q undef, tmps.getD k undef]) w := by simp [results, hr]
theorem nx_end4 {e : Exit} {N : Nat} {r : Option Nat} {fn : Func} {Q : Value → Hp → Prop} {Pn : List PanicEntry → Hp → Prop} {H' : Hp} {t s q k : Nat} {v x y z : Value} (he : Leaves e = true) (hr : fn.results = #[.tmp t, .tmp s, .tmp q, .tmp k]) (hv : ∀ a, look a env t = v) (hx : ∀ a, look a env s = x) (hy : ∀ a, look a env q = y) (hz : ∀ a, look a env k = z) (hq : Q (.tuple #[v, x, y, z]) H') (hp : Sub (H' ++ R) H := by repeat (first | exact Sub.refl _ | exact Sub.nil _ | (apply Sub.cons; (focus (repeat (first | exact One.here _ _ | apply One.there)))) | refine Sub.drop _ ?_)) : Nx ⟨N, [], u, r⟩ (bodyPost P fn (Post u R Q Pn) e) env H :=
  nx_end he (fun a w hs => by rw [results_four hr, puts_look a env (by rw [hs.size]; exact hs.fit), puts_look a env (by rw [hs.size]; exact hs.fit), puts_look a env (by rw [hs.size]; exact hs.fit), puts_look a env (by rw [hs.size]; exact hs.fit), hv a, hx a, hy a, hz a]) hq hp
theorem p_overlaps {f : FuncId} {fn : Func} {ax : Array Operand} {ats : Array TypeId} {tS tR e : TypeId} {size a b oa ob la ca lb cb : Nat} {xa xb : Array Value} {Ta Tb : TypeId} {zb : Nat × Nat}
    (hf : P.funcs[f]? = some fn) (hname : (fn.name == "runtime.NumGoroutine") = false) (hb : fn.body.isNone = true) (hn : Extern.findNext fn = none) (he : Extern.find fn = some (Extern.SlicesOverlaps.overlaps #[tS, tS] #[tR]))
    (ht : P.underlying tS = some (.slice e)) (hz : ∀ w : World, (Go.sizeOf e).run P w = .ok size w) (ha : ∀ c, ax.toList.map (ev c env) = [.slice (some ⟨a, oa, none⟩) la ca, .slice (some ⟨b, ob, none⟩) lb cb]) (hne : a ≠ b) (hk : xb.size ≠ 0) :
    OpP P ⟨d, .call ⟨.value (.func f), ax, ats⟩, ty, pos, af, g⟩ env [(a, .cells xa Ta (0, 0)), (b, .cells xb Tb zb)] (.bool false) := fun c w hs => by
  have g1 := hs (a, .cells xa Ta (0, 0)) (by simp)
  have g2 := hs (b, .cells xb Tb zb) (by simp)
  have h1 : ax.map (ev c env) = #[.slice (some ⟨a, oa, none⟩) la ca, .slice (some ⟨b, ob, none⟩) lb cb] := by
    have := map_list (ev c env) ax
    rw [this, ha c]
  have h2 := run_callFunc_extern hf hname hb hn he #[.slice (some ⟨a, oa, none⟩) la ca, .slice (some ⟨b, ob, none⟩) lb cb] w
  rw [Lib.run_overlaps_apart w tS tR e ht size hz ⟨a, oa, none⟩ ⟨b, ob, none⟩ la ca lb cb hne Ta Tb xa.size xb.size (by simp [World.shape?, g1]) (by simp [World.shape?, g2]) hk (by simp [World.frozen?, g1]) (by simp [World.frozen?, g1])] at h2
  have h3 : ev c env (.func f) = .func (.func f) #[] #[] := rfl
  simp [x_call, resolve, h3, Deferred.ofValue, invoke, h1, h2, Result.andThen]
end
end Gw
