/- Walking by chunks: an empty slice literal; append of a row that may be nil or empty. No function of the program is named. -/
/- Walking by chunks: a cut (what comes behind is proved once), a segment cut in two. No function of the program is named. -/
/- Walking by chunks: clear of a part of a row; rows behind a sort. No function of the program is named. -/
/- Walking by chunks: lists of three numbers compared. No function of the program is named. -/
import Derived.Test.YtkgmgmkbgnkdnaaGreatEz
import Derived.Test.YtkgmgmkbgnkdnaaGreatEx8
import Derived.LaidEqlPtr
import Derived.Sort.OwnSortedInts
import Derived.Lib.SlicesCompact
import Derived.Laws.StructEq

namespace Gw
open Go Go.RowKit
section
variable {P : Program} {u : World} {env : Env} {H R R2 : Hp} {d : Option Nat} {ty : TypeId} {pos : String} {af : Array Edge} {g : Option (Nat × Bool)}
theorem w_buildSlice0 {t e s : Nat} (hu : P.underlying t = some (.slice e)) (hs : ∀ w : World, (Go.sizeOf e).run P w = .ok s w) :
    OpW P u ⟨d, .buildSlice t 0 #[], ty, pos, af, g⟩ env H (fun v' H1 => ∃ b, v' = .slice (some ⟨b, 0, none⟩) 0 0 ∧ H1 = [(b, .cells ([] : List Value).toArray e (0, 0))] :: H) (fun _ _ => False) := fun a w hsat K Kp hK _ => by
  have hbs : (Instr.buildSlice t 0 (#[] : Array (Nat × Value))).run P w = .ok (.slice (some ⟨w.heap.size, 0, none⟩) 0 0) { w with heap := w.heap.push (.cells #[] e) } := by
    unfold Instr.buildSlice
    simp [Sem.run_bind, run_underlying hu, hs, Instr.fill, newRow]
    congr 2
    apply Array.ext <;> simp
  have : (execOp (ev a env) ⟨d, .buildSlice t 0 #[], ty, pos, af, g⟩).run P w = .ok (.value (.slice (some ⟨w.heap.size, 0, none⟩) 0 0)) { w with heap := w.heap.push (.cells #[] e) } := by
    rw [x_buildSlice, Sem.run_bind]
    have e0 : (#[] : Array (Nat × Operand)).map (fun (i, x) => (i, ev a env x)) = #[] := by simp
    rw [e0, hbs]; rfl
  rw [this]
  exact hK _ _ _ ⟨_, rfl, rfl⟩ (hsat.alloc _)
theorem One.has {b : Nat} {o : Obj} (h : One [(b, o)] H R) : Has b o H := by
  induction h with
  | here H => exact .here _
  | there t h ih => exact .there _ ih
theorem Row.le {e : TypeId} {v : Value} {xs : List Value} {s : List Chunk} (h : Row e v xs s) : ∃ b cap, v = .slice b xs.length cap ∧ xs.length ≤ cap := by
  rcases h with ⟨rfl, rfl, rfl⟩ | ⟨g, cap, cur, z, rfl, _, hle, _⟩
  · exact ⟨none, 0, rfl, Nat.le_refl _⟩
  · exact ⟨_, cap, rfl, hle⟩
theorem results_ct {t ty b j s : Nat} {fn : Func} {v x : Value} (hr : fn.results = #[.cell t ty, .tmp s]) {w : World} {tmps : Array Value} (hx : tmps.getD t undef = .pointer (some ⟨b, j, none⟩)) (hl : (loadVar ty ⟨b, j, none⟩).run P w = .ok v w) (hy : tmps.getD s undef = x) : (results fn tmps).run P w = .ok (.tuple #[v, x]) w := by
  rw [Array.getD_eq_getD_getElem?] at hx hy
  simp [results, hr, hx, hy, asAddr, hl]
theorem nx_endct {e : Exit} {N : Nat} {r : Option Nat} {fn : Func} {Q : Value → Hp → Prop} {Pn : List PanicEntry → Hp → Prop} {H' : Hp} {t ty b j s : Nat} {v x : Value} {o : Obj} (he : Leaves e = true) (hr : fn.results = #[.cell t ty, .tmp s]) (hv : ∀ a, look a env t = .pointer (some ⟨b, j, none⟩)) (hb : Has b o H) (hl : ∀ w : World, w.heap[b]? = some o → (loadVar ty ⟨b, j, none⟩).run P w = .ok v w) (hx : ∀ a, look a env s = x) (hq : Q (.tuple #[v, x]) H') (hp : Sub (H' ++ R) H := by repeat (first | exact Sub.refl _ | exact Sub.nil _ | (apply Sub.cons; (focus (repeat (first | exact One.here _ _ | apply One.there)))) | refine Sub.drop _ ?_)) : Nx ⟨N, [], u, r⟩ (bodyPost P fn (Post u R Q Pn) e) env H :=
  nx_end he (fun a w hs => results_ct hr (by rw [puts_look a env (by rw [hs.size]; exact hs.fit), hv a]) (hl w (hs.sat.get _ hb.mem)) (by rw [puts_look a env (by rw [hs.size]; exact hs.fit), hx a])) hq hp
theorem op_rm {ops : Array Oper} {l : List Oper} {cx : Cx} {Q : Exit → Act → World → Prop} {d : Nat} {op : Op} {v : Value} {cs : List Chunk} (hb : ∀ c ∈ cs, c ∈ H.flatten) (h : OpP P ⟨some d, op, ty, pos, af, none⟩ env cs v) (hn : notDefer op = true) (hd : Nat.blt d cx.N = true)
    (k : Ops P ops l cx Q ((d, v) :: env) H) : Ops P ops (⟨some d, op, ty, pos, af, none⟩ :: l) cx Q env H :=
  ops_eff (fun _ => rfl) (fun t ht => by cases ht; simpa using hd) hn (h.eff (u := cx.u) (H := H) hb) (by rintro _ _ ⟨rfl, rfl⟩; exact k) (fun _ _ h => h.elim)
theorem op_rmg {ops : Array Oper} {l : List Oper} {cx : Cx} {Q : Exit → Act → World → Prop} {d : Nat} {op : Op} {g : Nat × Bool} {v : Value} {cs : List Chunk} (hg : ∀ a, wantedE ops a env (some g) = true) (hb : ∀ c ∈ cs, c ∈ H.flatten) (h : OpP P ⟨some d, op, ty, pos, af, some g⟩ env cs v) (hn : notDefer op = true) (hd : Nat.blt d cx.N = true)
    (k : Ops P ops l cx Q ((d, v) :: env) H) : Ops P ops (⟨some d, op, ty, pos, af, some g⟩ :: l) cx Q env H :=
  ops_eff hg (fun t ht => by cases ht; simpa using hd) hn (h.eff (u := cx.u) (H := H) hb) (by rintro _ _ ⟨rfl, rfl⟩; exact k) (fun _ _ h => h.elim)
end
end Gw

namespace Gw
open Go Go.RowKit
section
variable {P : Program} {cx : Cx} {x y : Code} {Q : Exit → Act → World → Prop} {env : Env} {H : Hp}
theorem at_cutB {e0 B : Env} {H0 R : Hp} (I : Env → Hp → Prop) (hp : Pull H0 H R) (hx : At P cx x (Exit.then (fun a w => ∃ e H1 a0, I e H1 ∧ St cx (e ++ B) (H1 ++ R) a0 w ∧ a = puts (e ++ B) a0) Q) (e0 ++ B) (H0 ++ R)) (hy : ∀ e H1, I e H1 → At P cx y Q (e ++ B) (H1 ++ R)) : At P cx (.seq x y) Q (e0 ++ B) H := fun a w hs => by
  have hs' : St cx (e0 ++ B) (H0 ++ R) a w := ⟨hs.size, hs.defers, hs.fit, hs.sat.perm hp.perm⟩
  refine wpIn_seq (wpIn_mono (hx a w hs') fun e a' w' he => ?_)
  cases e <;> first | exact he | (obtain ⟨e', H', a0, hm, hs2, rfl⟩ := he; exact hy e' H' hm a0 w' hs2)
theorem nx_cutB {I : Env → Hp → Prop} {B e' : Env} {R H' : Hp} (h : I e' H') (hp : Sub (H' ++ R) H := by repeat (first | exact Sub.refl _ | exact Sub.nil _ | (apply Sub.cons; (focus (repeat (first | exact One.here _ _ | apply One.there)))) | refine Sub.drop _ ?_)) : Nx cx ((Exit.then (fun a w => ∃ e H1 a0, I e H1 ∧ St cx (e ++ B) (H1 ++ R) a0 w ∧ a = puts (e ++ B) a0) Q) .normal) (e' ++ B) H := fun a _ hs => ⟨e', H', a, h, ⟨hs.size, hs.defers, hs.fit, hs.sat.sub hp.amid⟩, rfl⟩
end
end Gw


namespace Gw
open Go Go.RowKit Go.Sort
section
variable {P : Program} {u : World} {env : Env} {H R : Hp} {d : Option Nat} {ty : TypeId} {pos : String} {af : Array Edge} {g : Option (Nat × Bool)}
end
theorem Sat.sorted {u w : World} {g n : Nat} {cur : Array Value} {e : TypeId} {z : Nat × Nat} {R : Hp} (d : Array Int) (os : Array Obj) (h : Sat u ([(g, .cells cur e z)] :: R) w) : Sat u ([(g, .cells (putCells (Value.int .i64) 0 d cur) e z)] :: R) (grow (putRow (Value.int .i64) (Sort.ahead w n) g 0 d) os) := by
  have hb := h.get (g, .cells cur e z) (by simp)
  have hg : g < w.heap.size := (Array.getElem?_eq_some_iff.1 hb).1
  have h1 : Sat u ([(g, .cells (putCells (Value.int .i64) 0 d cur) e z)] :: R) (putRow (Value.int .i64) (Sort.ahead w n) g 0 d) := by
    refine h.upd (.here _) rfl rfl rfl ?_ fun k hk => ?_
    · simp [putRow, mapBlock, Sort.ahead, Array.getElem?_modify, hb, onCells]
    · have : g ≠ k := fun e => hk e.symm
      simp [putRow, mapBlock, Sort.ahead, Array.getElem?_modify, this]
  exact h1.below ⟨rfl, rfl, rfl, by simp [grow], fun k hk => heap_grow_old _ _ hk⟩
theorem at_join {P : Program} {cx : Cx} {cd : Code} {Q : Exit → Act → World → Prop} {env : Env} {s1 s2 : List Chunk} {H R1 R2 : Hp} (h1 : One s1 H R1) (h2 : One s2 R1 R2) (k : At P cx cd Q env ((s1 ++ s2) :: R2)) : At P cx cd Q env H := fun a w hs =>
  k a w ⟨hs.size, hs.defers, hs.fit, hs.sat.perm (by
    simp only [List.flatten_cons, List.append_assoc]
    exact h1.perm.trans (List.Perm.append_left s1 h2.perm))⟩
end Gw


namespace Gw
open Go Go.RowKit
structure V3 where
  a : Int
  b : Int
  c : Int
deriving DecidableEq
def V3.zero : V3 := ⟨0, 0, 0⟩
theorem V3.eq_iff (x y : V3) : x = y ↔ (x.a = y.a ∧ x.b = y.b ∧ x.c = y.c) := by
  constructor
  · rintro rfl; exact ⟨rfl, rfl, rfl⟩
  · cases x; cases y; rintro ⟨h1, h2, h3⟩; simp only at h1 h2 h3; rw [h1, h2, h3]
section
variable {P : Program} {u : World} {env : Env} {H R : Hp} {d : Option Nat} {ty : TypeId} {pos : String} {af : Array Edge} {g : Option (Nat × Bool)}
theorem eq_int1 {e : TypeId} (n : Nat) (w : World) (he : P.underlying e = some (.int .i64)) (m k : Int) : (Op.equalIn (n + 1) e (.int .i64 m) (.int .i64 k)).run P w = .ok (decide (m = k)) w := by
  simp [Op.equalIn, run_underlying he]
  by_cases h : m = k <;> simp [h]
theorem part_int1 {e : TypeId} (w : World) (ha : (isAgg e).run P w = .ok false w) (xs : Array Value) (j : Nat) {v : Value} (h : xs[j]? = some v) : (part e xs j).run P w = .ok v w := by
  simp [part, ha, h]
theorem eq_arr3 {t e : TypeId} (w : World) (n : Nat) (x y : V3) (hu : P.underlying t = some (.array 3 e)) (he : P.underlying e = some (.int .i64)) (ha : ∀ w : World, (isAgg e).run P w = .ok false w) (hs : ∀ w : World, (Go.sizeOf e).run P w = .ok 1 w) :
    (Op.equalIn (n + 2) t (.agg #[.int .i64 x.a, .int .i64 x.b, .int .i64 x.c]) (.agg #[.int .i64 y.a, .int .i64 y.b, .int .i64 y.c])).run P w = .ok (decide (x = y)) w := by
  have ei : ∀ (m k : Int) (w : World), (Op.equalIn (n + 1) e (.int .i64 m) (.int .i64 k)).run P w = .ok (decide (m = k)) w := fun m k w => eq_int1 n w he m k
  have p0 : ∀ (v0 v1 v2 : Value) (w : World), (part e #[v0, v1, v2] 0).run P w = .ok v0 w := fun _ _ _ w => part_int1 w (ha w) _ _ rfl
  have p1 : ∀ (v0 v1 v2 : Value) (w : World), (part e #[v0, v1, v2] 1).run P w = .ok v1 w := fun _ _ _ w => part_int1 w (ha w) _ _ rfl
  have p2 : ∀ (v0 v1 v2 : Value) (w : World), (part e #[v0, v1, v2] 2).run P w = .ok v2 w := fun _ _ _ w => part_int1 w (ha w) _ _ rfl
  rw [show n + 2 = (n + 1) + 1 from rfl, Op.equalIn]
  generalize n + 1 = m at *
  simp only [Sem.run_bind, run_underlying hu, Result.andThen_ok, hs]
  simp only [Std.Legacy.Range.forIn_eq_forIn_range', Std.Legacy.Range.size, Nat.sub_zero, Nat.add_sub_cancel, Nat.div_one, List.range'_succ, List.range'_zero, List.forIn_cons, List.forIn_nil]
  simp only [Sem.run_bind, p0, p1, p2, ei, Result.andThen_ok, Nat.zero_add, Nat.mul_one, Nat.one_mul, Nat.zero_mul, V3.eq_iff]
  by_cases h1 : x.a = y.a <;> by_cases h2 : x.b = y.b <;> by_cases h3 : x.c = y.c <;> simp [h1, h2, h3, p0, p1, p2, ei]
theorem bin_eql_agg {t : TypeId} (p q : Array Value) : binOp .eql t (.agg p) (.agg q) = (do pure (.bool (← Op.equal t (.agg p) (.agg q)))) := rfl
theorem bin_neq_agg {t : TypeId} (p q : Array Value) : binOp .neq t (.agg p) (.agg q) = (do pure (.bool (!(← Op.equal t (.agg p) (.agg q))))) := rfl
section
variable {t yt e : TypeId} {x y : Operand} {p q : V3}
theorem p_eql_arr3 (hg : P.eqGuardType P.depth t = false) (hu : P.underlying t = some (.array 3 e)) (he : P.underlying e = some (.int .i64)) (ha : ∀ w : World, (isAgg e).run P w = .ok false w) (hs : ∀ w : World, (Go.sizeOf e).run P w = .ok 1 w)
    (hx : ∀ a, ev a env x = .agg #[.int .i64 p.a, .int .i64 p.b, .int .i64 p.c]) (hy : ∀ a, ev a env y = .agg #[.int .i64 q.a, .int .i64 q.b, .int .i64 q.c]) : OpP P ⟨d, .binOp .eql t x y yt, ty, pos, af, g⟩ env [] (.bool (decide (p = q))) := fun a w _ => by
  simp [x_binOp, hx a, hy a, go_sem, run_eqGuard_agg w _ t _ _ _ _ hg, bin_eql_agg, Op.equal, Op.maxDepth, eq_arr3 w 9998 p q hu he ha hs]
theorem p_neq_arr3 (hg : P.eqGuardType P.depth t = false) (hu : P.underlying t = some (.array 3 e)) (he : P.underlying e = some (.int .i64)) (ha : ∀ w : World, (isAgg e).run P w = .ok false w) (hs : ∀ w : World, (Go.sizeOf e).run P w = .ok 1 w)
    (hx : ∀ a, ev a env x = .agg #[.int .i64 p.a, .int .i64 p.b, .int .i64 p.c]) (hy : ∀ a, ev a env y = .agg #[.int .i64 q.a, .int .i64 q.b, .int .i64 q.c]) : OpP P ⟨d, .binOp .neq t x y yt, ty, pos, af, g⟩ env [] (.bool (decide (p ≠ q))) := fun a w _ => by
  simp [x_binOp, hx a, hy a, go_sem, run_eqGuard_agg w _ t _ _ _ _ hg, bin_neq_agg, Op.equal, Op.maxDepth, eq_arr3 w 9998 p q hu he ha hs]
theorem p_eql_arr3z (hg : P.eqGuardType P.depth t = false) (hu : P.underlying t = some (.array 3 e)) (he : P.underlying e = some (.int .i64)) (ha : ∀ w : World, (isAgg e).run P w = .ok false w) (hs : ∀ w : World, (Go.sizeOf e).run P w = .ok 1 w)
    (hx : ∀ a, ev a env x = .agg #[.int .i64 p.a, .int .i64 p.b, .int .i64 p.c]) (hy : ∀ a, ev a env y = .agg #[.int .i64 0, .int .i64 0, .int .i64 0]) : OpP P ⟨d, .binOp .eql t x y yt, ty, pos, af, g⟩ env [] (.bool (decide (p = V3.zero))) := p_eql_arr3 (q := V3.zero) hg hu he ha hs hx hy
theorem p_neq_arr3z (hg : P.eqGuardType P.depth t = false) (hu : P.underlying t = some (.array 3 e)) (he : P.underlying e = some (.int .i64)) (ha : ∀ w : World, (isAgg e).run P w = .ok false w) (hs : ∀ w : World, (Go.sizeOf e).run P w = .ok 1 w)
    (hx : ∀ a, ev a env x = .agg #[.int .i64 p.a, .int .i64 p.b, .int .i64 p.c]) (hy : ∀ a, ev a env y = .agg #[.int .i64 0, .int .i64 0, .int .i64 0]) : OpP P ⟨d, .binOp .neq t x y yt, ty, pos, af, g⟩ env [] (.bool (decide (p ≠ V3.zero))) := p_neq_arr3 (q := V3.zero) hg hu he ha hs hx hy
end
end
def V3.get (v : V3) (i : Nat) : Int := if i = 0 then v.a else if i = 1 then v.b else v.c
theorem v3_at (x y : Value) (v : V3) (i : Nat) (h : i < 3) : (#[x, y, Value.int .i64 v.a, .int .i64 v.b, .int .i64 v.c] : Array Value)[2 + i]? = some (.int .i64 (v.get i)) := by
  rcases i with _ | _ | _ | i
  · rfl
  · rfl
  · rfl
  · omega
def inV (n : Int) : Prop := -1000000000 ≤ n ∧ n ≤ 1000000000
instance (n : Int) : Decidable (inV n) := inferInstanceAs (Decidable (_ ∧ _))
def V3.ok (v : V3) : Prop := inV v.a ∧ inV v.b ∧ inV v.c
instance (v : V3) : Decidable v.ok := inferInstanceAs (Decidable (_ ∧ _ ∧ _))
theorem v3_ok {v : V3} : v.ok ↔ ∀ i, i < 3 → inV (v.get i) := by
  constructor
  · rintro ⟨h1, h2, h3⟩ i hi
    rcases i with _ | _ | _ | i
    · exact h1
    · exact h2
    · exact h3
    · omega
  · intro h; exact ⟨h 0 (by omega), h 1 (by omega), h 2 (by omega)⟩
theorem v3_more {v : V3} {i : Nat} (h : ∀ j, j < i → inV (v.get j)) (hi : inV (v.get i)) : ∀ j, j < i + 1 → inV (v.get j) := by
  intro j hj
  rcases Nat.lt_or_ge j i with h9 | h9
  · exact h j h9
  · have e : j = i := by omega
    rw [e]; exact hi
end Gw
