/- Walking by chunks: an empty slice literal; append of a row that may be nil or empty. No function of the program is named. -/
import Derived.Test.YthbadolcncojbaaGreatDoorEx8
import Derived.Test.YthbadolcncojbaaGreatDoorEx7
import Derived.LaidEqlPtr

namespace Gw
open Go Go.RowKit
section
variable {P : Program} {u : World} {env : Env} {H R R2 : Hp} {d : Option Nat} {ty : TypeId} {pos : String} {af : Array Edge} {g : Option (Nat × Bool)}
theorem w_buildSlice0 {t e s : Nat} (hu : P.underlying t = some (.slice e)) (hs : ∀ w : World, (Go.sizeOf e).run P w = .ok s w) :
    OpW P u ⟨d, .buildSlice t 0 #[], ty, pos, af, g⟩ env H (fun v' H1 => ∃ b, v' = .slice (some ⟨b, 0, none⟩) 0 0 ∧ H1 = [(b, .cells ([] : List Value).toArray e (0, 0))] :: H) (fun _ _ => False) := fun a w hsat K Kp hK _ => by
  have hbs : (Instr.buildSlice t 0 (#[] : Array (Nat × Value))).run P w = .ok (.slice (some ⟨w.heap.size, 0, none⟩) 0 0) { w with heap := w.heap.push (.cells #[] e) } := by
    unfold Instr.buildSlice
    simp [Sem.run_bind, run_underlying hu, hs, Instr.fill, newRow]
    congr 2
    apply Array.ext <;> simp
  have : (execOp (ev a env) ⟨d, .buildSlice t 0 #[], ty, pos, af, g⟩).run P w = .ok (.value (.slice (some ⟨w.heap.size, 0, none⟩) 0 0)) { w with heap := w.heap.push (.cells #[] e) } := by
    rw [x_buildSlice, Sem.run_bind]
    have e0 : (#[] : Array (Nat × Operand)).map (fun (i, x) => (i, ev a env x)) = #[] := by simp
    rw [e0, hbs]; rfl
  rw [this]
  exact hK _ _ _ ⟨_, rfl, rfl⟩ (hsat.alloc _)
theorem One.has {b : Nat} {o : Obj} (h : One [(b, o)] H R) : Has b o H := by
  induction h with
  | here H => exact .here _
  | there t h ih => exact .there _ ih
theorem Row.le {e : TypeId} {v : Value} {xs : List Value} {s : List Chunk} (h : Row e v xs s) : ∃ b cap, v = .slice b xs.length cap ∧ xs.length ≤ cap := by
  rcases h with ⟨rfl, rfl, rfl⟩ | ⟨g, cap, cur, z, rfl, _, hle, _⟩
  · exact ⟨none, 0, rfl, Nat.le_refl _⟩
  · exact ⟨_, cap, rfl, hle⟩
theorem w_append_row {x y : Operand} {t e : TypeId} {i : TypeInfo} {z : Value} {by_ : Nat} {v v2 : Value} {xs ys : List Value} {s s2 : List Chunk}
    (ht : P.underlying t = some (.slice e)) (hi : P.info? e = some i) (hsz : i.size = 1) (hby : i.bytes = by_) (hzi : i.zero = some z) (hz1 : z.oneCell' = true)
    (hx : ∀ a, ev a env x = v) (hrow : Row e v xs s) (hy : ∀ a, ev a env y = v2) (hrow2 : Row e v2 ys s2) (hone : One s H R) (htwo : One s2 R R2) (h1 : ∀ u ∈ ys, u.oneCell' = true)
    (h63 : xs.length + ys.length ≤ maxLen) (hb : (xs.length + ys.length) * by_ ≤ 140737488355328) :
    OpW P u ⟨d, .call ⟨.builtin .append, #[x, y], #[t, t]⟩, ty, pos, af, g⟩ env H (fun v' H1 => ∃ s', Row e v' (xs ++ ys) s' ∧ H1 = s' :: R) (fun _ _ => False) := by
  by_cases h0 : ys = []
  · subst h0
    obtain ⟨b2, c2, rfl, _⟩ := hrow2.le
    obtain ⟨b, c, rfl, hle⟩ := hrow.le
    intro a w hsat K Kp hK _
    have hs1 : Sat u (s :: R) w := hsat.perm (by simpa using hone.perm)
    have hl0 : (Builtin.firstCells i.size 0 (.slice b2 0 c2)).run P w = .ok #[] w := by
      cases b2 with
      | none => simp [Builtin.firstCells]
      | some ad => simp [Builtin.firstCells, loadCells, loadCellsFrom]
    have hr : (Builtin.append_ #[t, t] ty #[.slice b xs.length c, .slice b2 0 c2]).run P w = .ok (.slice b xs.length c) w := by
      rw [hsz] at hl0
      cases b with
      | none => simp [Builtin.append_, run_underlying ht, Go.sizeOf, typeInfo, hi, hsz, Builtin.lenOf, hle, hl0]
      | some ad => simp [Builtin.append_, run_underlying ht, Go.sizeOf, typeInfo, hi, hsz, Builtin.lenOf, hle, hl0, storeCells]
    have hx' : (execOp (ev a env) ⟨d, .call ⟨.builtin .append, #[x, y], #[t, t]⟩, ty, pos, af, g⟩).run P w = .ok (.value (.slice b xs.length c)) w := by
      simp only [x_call, resolve, invoke, builtin, List.map_toArray, List.map_cons, List.map_nil, hx a, hy a, Sem.run_bind, Sem.run_pure, Result.andThen_ok, List.length_nil, hr]
    rw [hx']
    exact hK _ _ _ ⟨s, by rw [List.append_nil]; exact hrow, rfl⟩ hs1
  · have hp : 0 < ys.length := List.length_pos_iff.2 h0
    obtain ⟨gb, cap, cur, zz, rfl, rfl, hle, hcm, hcs, htk, hfr⟩ := hrow2.some hp
    exact w_append ht hi hsz hby hzi hz1 hx hrow hy hone htwo.has (by unfold CellsIn; rw [List.drop_zero]; exact htk) rfl h1 hp h63 hb
theorem w_append_fit {x y : Operand} {t e : TypeId} {i : TypeInfo} {gb k cap b o m c : Nat} {cur c1 : Array Value} {T1 : TypeId} {zz z1 : Nat × Nat} {news : List Value}
    (ht : P.underlying t = some (.slice e)) (hi : P.info? e = some i) (hsz : i.size = 1)
    (hx : ∀ a, ev a env x = .slice (some ⟨gb, 0, none⟩) k cap) (hy : ∀ a, ev a env y = .slice (some ⟨b, o, none⟩) m c) (hone : One [(gb, .cells cur e zz)] H R) (hsrc : Has b (.cells c1 T1 z1) R) (hnews : CellsIn c1 o news) (hl : news.length = m) (h1 : ∀ u ∈ news, u.oneCell' = true)
    (hk : k + m ≤ cap) (hcs : cur.size = cap) (hfr : Free zz cur.size) :
    OpW P u ⟨d, .call ⟨.builtin .append, #[x, y], #[t, t]⟩, ty, pos, af, g⟩ env H (fun v' H1 => v' = .slice (some ⟨gb, 0, none⟩) (k + m) cap ∧ H1 = [(gb, .cells (over cur k news) e zz)] :: R) (fun _ _ => False) := fun a w hsat K Kp hK _ => by
  have hs1 : Sat u ([(gb, .cells cur e zz)] :: R) w := hsat.perm (by simpa using hone.perm)
  have hsR : Sat u R w := hs1.sub ⟨_, by simp only [List.flatten_cons]; exact List.perm_append_comm⟩
  have hnw := cells_at (hsR.get _ hsrc.mem) hnews
  have hl' : news.length = m * i.size := by rw [hsz]; omega
  have hg := hs1.get (gb, .cells cur e zz) (by simp)
  have hf := run_firstCells_some (P := P) w i.size m ⟨b, o, none⟩ m c news hl' hnw
  rw [hsz] at hf
  have hst := run_storeCells_free (P := P) gb k e zz news 0 cur w hg hfr (by rw [hl, hcs]; omega) h1
  simp only [Nat.add_zero] at hst
  have hr : (Builtin.append_ #[t, t] ty #[.slice (some ⟨gb, 0, none⟩) k cap, .slice (some ⟨b, o, none⟩) m c]).run P w = .ok (.slice (some ⟨gb, 0, none⟩) (k + m) cap) (w.setRow gb (over cur k news)) := by
    simp [Builtin.append_, run_underlying ht, Go.sizeOf, typeInfo, hi, hsz, Builtin.lenOf, hk, hf, add_addr, hst, over]
  have hx' : (execOp (ev a env) ⟨d, .call ⟨.builtin .append, #[x, y], #[t, t]⟩, ty, pos, af, g⟩).run P w = .ok (.value (.slice (some ⟨gb, 0, none⟩) (k + m) cap)) (w.setRow gb (over cur k news)) := by
    simp only [x_call, resolve, invoke, builtin, List.map_toArray, List.map_cons, List.map_nil, hx a, hy a, Sem.run_bind, Sem.run_pure, Result.andThen_ok, hr]
  rw [hx']
  exact hK _ _ _ ⟨rfl, rfl⟩ (hs1.upd (.here _) rfl rfl rfl (setRow_heap w gb cur _ e zz hg) fun k hk => setRow_other w gb k _ hk)
theorem zeroCells_one (z : Value) (hz : z.cells = #[z]) (n : Nat) : Builtin.zeroCells z.cells n = (List.replicate n z).toArray := by
  rw [hz]
  unfold Builtin.zeroCells
  apply Array.ext
  · simp
  · intro i h1 h2
    simp [Nat.mod_one]
theorem w_append_make {x y : Operand} {t ti e : TypeId} {i : TypeInfo} {z : Value} {by_ gb cap m : Nat}
    (ht : P.underlying t = some (.slice e)) (hti : P.underlying ti = some (.int .i64)) (hi : P.info? e = some i) (hsz : i.size = 1) (hby : i.bytes = by_) (hzi : i.zero = some z) (hz1 : z.oneCell' = true)
    (hx : ∀ a, ev a env x = .slice (some ⟨gb, 0, none⟩) 0 cap) (hy : ∀ a, ev a env y = .int .i64 (m : Int)) (hm : cap < m) (h63 : m ≤ maxLen) (hb : m * by_ ≤ 140737488355328) :
    OpW P u ⟨d, .call ⟨.builtin .append, #[x, y], #[t, ti]⟩, ty, pos, af, g⟩ env H (fun v' H1 => ∃ s', Row e v' (List.replicate m z) s' ∧ H1 = s' :: H) (fun _ _ => False) := fun a w hsat K Kp hK _ => by
  have hzc : z.cells = #[z] := by cases z <;> first | rfl | simp [Value.oneCell'] at hz1
  have hml : maxLen = 9223372036854775807 := rfl
  have hw : IntKind.i64.wrap (m : Int) = (m : Int) := wrap_i64_nat _ (by omega)
  have h1 : ¬ ((m : Int) < 0) := by omega
  have h2 : ¬ ((281474976710656 : Int) < (m : Int) * (by_ : Int)) := by
    rw [← Int.natCast_mul]
    omega
  have h3 : ¬ (m ≤ cap) := by omega
  have h4 : ¬ (IntKind.i64.max < (m : Int)) := by
    have : IntKind.i64.max = 9223372036854775807 := rfl
    omega
  have h7 : ¬ ((9223372036854775807 : Int) < (m : Int)) := by omega
  have h8 : m ≠ 0 := by omega
  have h5 := growslice_fits (need := m) (old := cap) (bytes := by_) (by omega) hb
  have h6 : ¬ (281474976710656 < Builtin.nextslicecap m cap * by_) := by omega
  have hge := grownCap_ge w m cap e
  have hcap : grownCap w m cap e ≤ maxLen := grownCap_le_maxLen w m cap e h63
  have hr : (Builtin.append_ #[t, ti] ty #[.slice (some ⟨gb, 0, none⟩) 0 cap, .int .i64 (m : Int)]).run P w = .ok (.slice (some ⟨w.heap.size, 0, none⟩) m (grownCap w m cap e)) (w.drew.alloc (.cells (#[] ++ Builtin.zeroCells z.cells m ++ Builtin.zeroCells z.cells (grownCap w m cap e - m)) e)) := by
    simp [Builtin.append_, run_underlying ht, run_underlying hti, Go.sizeOf, typeInfo, zeroValue, hi, hsz, hzi, Builtin.lenOf, Builtin.firstCells, loadCells, loadCellsFrom, asInt, hw, h1, h2, h3, h4, h6, h7, h8, hby, asIntOf, Question.forced, newRow, grownCap]
  have hx' : (execOp (ev a env) ⟨d, .call ⟨.builtin .append, #[x, y], #[t, ti]⟩, ty, pos, af, g⟩).run P w = .ok (.value (.slice (some ⟨w.heap.size, 0, none⟩) m (grownCap w m cap e))) (w.drew.alloc (.cells (#[] ++ Builtin.zeroCells z.cells m ++ Builtin.zeroCells z.cells (grownCap w m cap e - m)) e)) := by
    simp only [x_call, resolve, invoke, builtin, List.map_toArray, List.map_cons, List.map_nil, hx a, hy a, Sem.run_bind, Sem.run_pure, Result.andThen_ok, hr]
  rw [hx']
  refine hK _ _ _ ⟨[(w.heap.size, .cells (#[] ++ Builtin.zeroCells z.cells m ++ Builtin.zeroCells z.cells (grownCap w m cap e - m)) e (0, 0))], .inr ⟨w.heap.size, grownCap w m cap e, _, (0, 0), by rw [List.length_replicate], rfl, by rw [List.length_replicate]; exact hge, hcap, ?_, ?_, free_zero _⟩, rfl⟩ (hsat.drew.alloc _)
  · simp [size_zeroCells, hzc]; omega
  · rw [zeroCells_one z hzc m, zeroCells_one z hzc]
    simp
theorem results_ct {t ty b j s : Nat} {fn : Func} {v x : Value} (hr : fn.results = #[.cell t ty, .tmp s]) {w : World} {tmps : Array Value} (hx : tmps.getD t undef = .pointer (some ⟨b, j, none⟩)) (hl : (loadVar ty ⟨b, j, none⟩).run P w = .ok v w) (hy : tmps.getD s undef = x) : (results fn tmps).run P w = .ok (.tuple #[v, x]) w := by
  rw [Array.getD_eq_getD_getElem?] at hx hy
  simp [results, hr, hx, hy, asAddr, hl]
theorem nx_endct {e : Exit} {N : Nat} {r : Option Nat} {fn : Func} {Q : Value → Hp → Prop} {Pn : List PanicEntry → Hp → Prop} {H' : Hp} {t ty b j s : Nat} {v x : Value} {o : Obj} (he : Leaves e = true) (hr : fn.results = #[.cell t ty, .tmp s]) (hv : ∀ a, look a env t = .pointer (some ⟨b, j, none⟩)) (hb : Has b o H) (hl : ∀ w : World, w.heap[b]? = some o → (loadVar ty ⟨b, j, none⟩).run P w = .ok v w) (hx : ∀ a, look a env s = x) (hq : Q (.tuple #[v, x]) H') (hp : Sub (H' ++ R) H := by repeat (first | exact Sub.refl _ | exact Sub.nil _ | (apply Sub.cons; (focus (repeat (first | exact One.here _ _ | apply One.there)))) | refine Sub.drop _ ?_)) : Nx ⟨N, [], u, r⟩ (bodyPost P fn (Post u R Q Pn) e) env H :=
  nx_end he (fun a w hs => results_ct hr (by rw [puts_look a env (by rw [hs.size]; exact hs.fit), hv a]) (hl w (hs.sat.get _ hb.mem)) (by rw [puts_look a env (by rw [hs.size]; exact hs.fit), hx a])) hq hp
theorem p_eql_ptr_ne {x y : Operand} {t te : TypeId} {yt : TypeId} {j : TypeInfo} {a b : Nat} {ca cb : Array Value} {ta tb : TypeId} (hu : P.underlying t = some (.pointer te)) (hte : P.info? te = some j) (hsz : j.size ≠ 0) (hne : a ≠ b) (hx : ∀ c, ev c env x = .pointer (some ⟨a, 0, none⟩)) (hy : ∀ c, ev c env y = .pointer (some ⟨b, 0, none⟩)) :
    OpP P ⟨d, .binOp .eql t x y yt, ty, pos, af, g⟩ env [(a, .cells ca ta (0, 0)), (b, .cells cb tb (0, 0))] (.bool false) := fun c w h => by
  have h1 := h (a, .cells ca ta (0, 0)) (by simp)
  have h2 := h (b, .cells cb tb (0, 0)) (by simp)
  have h3 := run_eql_ptr_other (P := P) w (a := ⟨a, 0, none⟩) (b := ⟨b, 0, none⟩) hu hte hsz (by intro e; injection e with e; exact hne e) h1 h2
  simp [x_binOp, hx c, hy c, eqGuard, h3]
theorem p_eql_ptr_eq {x y : Operand} {t te : TypeId} {yt : TypeId} {j : TypeInfo} {a : Addr} (hu : P.underlying t = some (.pointer te)) (hte : P.info? te = some j) (hx : ∀ c, ev c env x = .pointer (some a)) (hy : ∀ c, ev c env y = .pointer (some a)) :
    OpP P ⟨d, .binOp .eql t x y yt, ty, pos, af, g⟩ env [] (.bool true) := fun c w h => by
  have h3 := run_eql_ptr_same (P := P) w a hu hte
  simp [x_binOp, hx c, hy c, eqGuard, h3]
theorem op_rm {ops : Array Oper} {l : List Oper} {cx : Cx} {Q : Exit → Act → World → Prop} {d : Nat} {op : Op} {v : Value} {cs : List Chunk} (hb : ∀ c ∈ cs, c ∈ H.flatten) (h : OpP P ⟨some d, op, ty, pos, af, none⟩ env cs v) (hn : notDefer op = true) (hd : Nat.blt d cx.N = true)
    (k : Ops P ops l cx Q ((d, v) :: env) H) : Ops P ops (⟨some d, op, ty, pos, af, none⟩ :: l) cx Q env H :=
  ops_eff (fun _ => rfl) (fun t ht => by cases ht; simpa using hd) hn (h.eff (u := cx.u) (H := H) hb) (by rintro _ _ ⟨rfl, rfl⟩; exact k) (fun _ _ h => h.elim)
theorem ne_of_sat {w : World} {s1 s2 : List Chunk} {a b : Nat} {x y : Obj} (hs : Sat u H w) (h1 : One s1 H R) (h2 : One s2 R R2) (ha : (a, x) ∈ s1) (hb : (b, y) ∈ s2) : a ≠ b := by
  have hn := hs.nodup
  have hp : H.flatten.Perm (s1 ++ (s2 ++ R2.flatten)) := h1.perm.trans (List.Perm.append_left s1 h2.perm)
  rw [(hp.map (·.1)).nodup_iff, List.map_append, List.map_append, List.nodup_append] at hn
  exact hn.2.2 a (List.mem_map.2 ⟨_, ha, rfl⟩) b (List.mem_append_left _ (List.mem_map.2 ⟨_, hb, rfl⟩))
theorem at_ne {cx : Cx} {c : Code} {Q : Exit → Act → World → Prop} {s1 s2 : List Chunk} {a b : Nat} {x y : Obj} (h1 : One s1 H R) (h2 : One s2 R R2) (ha : (a, x) ∈ s1) (hb : (b, y) ∈ s2) (k : a ≠ b → At P cx c Q env H) : At P cx c Q env H :=
  fun act w hs => k (ne_of_sat hs.sat h1 h2 ha hb) act w hs
theorem row_set {e : TypeId} {v : Value} {xs : List Value} {s : List Chunk} (h : Row e v xs s) {k : Nat} (hk : k < xs.length) : ∃ b cap cur z, v = .slice (some ⟨b, 0, none⟩) xs.length cap ∧ s = [(b, .cells cur e z)] ∧ k < cur.size ∧ Free z cur.size ∧ ∀ y : Value, Row e v (xs.set k y) [(b, .cells (cur.setIfInBounds k y) e z)] := by
  obtain ⟨b, cap, cur, z, rfl, rfl, hle, hcm, hcs, htk, hfr⟩ := h.some (by omega)
  refine ⟨b, cap, cur, z, rfl, rfl, by omega, hfr, fun y => .inr ⟨b, cap, _, z, by rw [List.length_set], rfl, by rw [List.length_set]; exact hle, hcm, by rw [Array.size_setIfInBounds]; exact hcs, ?_, by rw [Array.size_setIfInBounds]; exact hfr⟩⟩
  rw [List.length_set, Array.toList_setIfInBounds, List.take_set, htk]
/-- v is a part of a slice (or empty): its cells are ys; they stand in the one chunk of s. -/
def SubV (v : Value) (ys : List Value) (s : List Chunk) : Prop :=
  (∃ p c, v = .slice p 0 c ∧ ys = []) ∨ (0 < ys.length ∧ ∃ b o c cur T z, v = .slice (Option.some ⟨b, o, none⟩) ys.length c ∧ s = [(b, .cells cur T z)] ∧ CellsIn cur o ys)
theorem row_sub {e : TypeId} {v : Value} {xs : List Value} {s : List Chunk} (h : Row e v xs s) : SubV v xs s := by
  by_cases h0 : xs = []
  · subst h0
    obtain ⟨b, c, rfl⟩ := h.form
    exact .inl ⟨b, c, rfl, rfl⟩
  · have hp : 0 < xs.length := List.length_pos_iff.2 h0
    obtain ⟨gb, cap, cur, zz, rfl, rfl, hle, hcm, hcs, htk, hfr⟩ := h.some hp
    exact .inr ⟨hp, gb, 0, cap, cur, e, zz, rfl, rfl, by unfold CellsIn; rw [List.drop_zero]; exact htk⟩
theorem w_append_sub {x y : Operand} {t e : TypeId} {i : TypeInfo} {z : Value} {by_ : Nat} {v v2 : Value} {xs ys : List Value} {s s2 : List Chunk}
    (ht : P.underlying t = some (.slice e)) (hi : P.info? e = some i) (hsz : i.size = 1) (hby : i.bytes = by_) (hzi : i.zero = some z) (hz1 : z.oneCell' = true)
    (hx : ∀ a, ev a env x = v) (hrow : Row e v xs s) (hy : ∀ a, ev a env y = v2) (hsub : SubV v2 ys s2) (hone : One s H R) (htwo : One s2 R R2) (h1 : ∀ u ∈ ys, u.oneCell' = true)
    (h63 : xs.length + ys.length ≤ maxLen) (hb : (xs.length + ys.length) * by_ ≤ 140737488355328) :
    OpW P u ⟨d, .call ⟨.builtin .append, #[x, y], #[t, t]⟩, ty, pos, af, g⟩ env H (fun v' H1 => ∃ s', Row e v' (xs ++ ys) s' ∧ H1 = s' :: R) (fun _ _ => False) := by
  rcases hsub with ⟨p, c2, rfl, rfl⟩ | ⟨hp, b, o, c, cur, T, z2, rfl, rfl, hin⟩
  · obtain ⟨b, c, rfl, hle⟩ := hrow.le
    intro a w hsat K Kp hK _
    have hs1 : Sat u (s :: R) w := hsat.perm (by simpa using hone.perm)
    have hl0 : (Builtin.firstCells i.size 0 (.slice p 0 c2)).run P w = .ok #[] w := by
      cases p with
      | none => simp [Builtin.firstCells]
      | some ad => simp [Builtin.firstCells, loadCells, loadCellsFrom]
    have hr : (Builtin.append_ #[t, t] ty #[.slice b xs.length c, .slice p 0 c2]).run P w = .ok (.slice b xs.length c) w := by
      rw [hsz] at hl0
      cases b with
      | none => simp [Builtin.append_, run_underlying ht, Go.sizeOf, typeInfo, hi, hsz, Builtin.lenOf, hle, hl0]
      | some ad => simp [Builtin.append_, run_underlying ht, Go.sizeOf, typeInfo, hi, hsz, Builtin.lenOf, hle, hl0, storeCells]
    have hx' : (execOp (ev a env) ⟨d, .call ⟨.builtin .append, #[x, y], #[t, t]⟩, ty, pos, af, g⟩).run P w = .ok (.value (.slice b xs.length c)) w := by
      simp only [x_call, resolve, invoke, builtin, List.map_toArray, List.map_cons, List.map_nil, hx a, hy a, Sem.run_bind, Sem.run_pure, Result.andThen_ok, hr]
    rw [hx']
    exact hK _ _ _ ⟨s, by rw [List.append_nil]; exact hrow, rfl⟩ hs1
  · exact w_append ht hi hsz hby hzi hz1 hx hrow hy hone htwo.has hin rfl h1 hp h63 hb
end
end Gw
