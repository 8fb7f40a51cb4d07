/- Walking by chunks: an empty slice literal; append of a row that may be nil or empty. No function of the program is named. -/
import Derived.Test.YthbadolcncojbaaGreatDoorEx8
import Derived.Test.YthbadolcncojbaaGreatDoorEx7
import Derived.LaidEqlPtr

namespace Gw
open Go Go.RowKit
section
variable {P : Program} {u : World} {env : Env} {H R R2 : Hp} {d : Option Nat} {ty : TypeId} {pos : String} {af : Array Edge} {g : Option (Nat × Bool)}
theorem w_buildSlice0 {t e s : Nat} (hu : P.underlying t = some (.slice e)) (hs : ∀ w : World, (Go.sizeOf e).run P w = .ok s w) :
    OpW P u ⟨d, .buildSlice t 0 #[], ty, pos, af, g⟩ env H (fun v' H1 => ∃ b, v' = .slice (some ⟨b, 0, none⟩) 0 0 ∧ H1 = [(b, .cells ([] : List Value).toArray e (0, 0))] :: H) (fun _ _ => False) := fun a w hsat K Kp hK _ => by
  have hbs : (Instr.buildSlice t 0 (#[] : Array (Nat × Value))).run P w = .ok (.slice (some ⟨w.heap.size, 0, none⟩) 0 0) { w with heap := w.heap.push (.cells #[] e) } := by
    unfold Instr.buildSlice
    simp [Sem.run_bind, run_underlying hu, hs, Instr.fill, newRow]
    congr 2
    apply Array.ext <;> simp
  have : (execOp (ev a env) ⟨d, .buildSlice t 0 #[], ty, pos, af, g⟩).run P w = .ok (.value (.slice (some ⟨w.heap.size, 0, none⟩) 0 0)) { w with heap := w.heap.push (.cells #[] e) } := by
    rw [x_buildSlice, Sem.run_bind]
    have e0 : (#[] : Array (Nat × Operand)).map (fun (i, x) => (i, ev a env x)) = #[] := by simp
    rw [e0, hbs]; rfl
  rw [this]
  exact hK _ _ _ ⟨_, rfl, rfl⟩ (hsat.alloc _)
theorem One.has {b : Nat} {o : Obj} (h : One [(b, o)] H R) : Has b o H := by
  induction h with
  | here H => exact .here _
  | there t h ih => exact .there _ ih
theorem Row.le {e : TypeId} {v : Value} {xs : List Value} {s : List Chunk} (h : Row e v xs s) : ∃ b cap, v = .slice b xs.length cap ∧ xs.length ≤ cap := by
  rcases h with ⟨rfl, rfl, rfl⟩ | ⟨g, cap, cur, z, rfl, _, hle, _⟩
  · exact ⟨none, 0, rfl, Nat.le_refl _⟩
  · exact ⟨_, cap, rfl, hle⟩
theorem results_ct {t ty b j s : Nat} {fn : Func} {v x : Value} (hr : fn.results = #[.cell t ty, .tmp s]) {w : World} {tmps : Array Value} (hx : tmps.getD t undef = .pointer (some ⟨b, j, none⟩)) (hl : (loadVar ty ⟨b, j, none⟩).run P w = .ok v w) (hy : tmps.getD s undef = x) : (results fn tmps).run P w = .ok (.tuple #[v, x]) w := by
  rw [Array.getD_eq_getD_getElem?] at hx hy
  simp [results, hr, hx, hy, asAddr, hl]
theorem nx_endct {e : Exit} {N : Nat} {r : Option Nat} {fn : Func} {Q : Value → Hp → Prop} {Pn : List PanicEntry → Hp → Prop} {H' : Hp} {t ty b j s : Nat} {v x : Value} {o : Obj} (he : Leaves e = true) (hr : fn.results = #[.cell t ty, .tmp s]) (hv : ∀ a, look a env t = .pointer (some ⟨b, j, none⟩)) (hb : Has b o H) (hl : ∀ w : World, w.heap[b]? = some o → (loadVar ty ⟨b, j, none⟩).run P w = .ok v w) (hx : ∀ a, look a env s = x) (hq : Q (.tuple #[v, x]) H') (hp : Sub (H' ++ R) H := by repeat (first | exact Sub.refl _ | exact Sub.nil _ | (apply Sub.cons; (focus (repeat (first | exact One.here _ _ | apply One.there)))) | refine Sub.drop _ ?_)) : Nx ⟨N, [], u, r⟩ (bodyPost P fn (Post u R Q Pn) e) env H :=
  nx_end he (fun a w hs => results_ct hr (by rw [puts_look a env (by rw [hs.size]; exact hs.fit), hv a]) (hl w (hs.sat.get _ hb.mem)) (by rw [puts_look a env (by rw [hs.size]; exact hs.fit), hx a])) hq hp
theorem op_rm {ops : Array Oper} {l : List Oper} {cx : Cx} {Q : Exit → Act → World → Prop} {d : Nat} {op : Op} {v : Value} {cs : List Chunk} (hb : ∀ c ∈ cs, c ∈ H.flatten) (h : OpP P ⟨some d, op, ty, pos, af, none⟩ env cs v) (hn : notDefer op = true) (hd : Nat.blt d cx.N = true)
    (k : Ops P ops l cx Q ((d, v) :: env) H) : Ops P ops (⟨some d, op, ty, pos, af, none⟩ :: l) cx Q env H :=
  ops_eff (fun _ => rfl) (fun t ht => by cases ht; simpa using hd) hn (h.eff (u := cx.u) (H := H) hb) (by rintro _ _ ⟨rfl, rfl⟩; exact k) (fun _ _ h => h.elim)
theorem op_rmg {ops : Array Oper} {l : List Oper} {cx : Cx} {Q : Exit → Act → World → Prop} {d : Nat} {op : Op} {g : Nat × Bool} {v : Value} {cs : List Chunk} (hg : ∀ a, wantedE ops a env (some g) = true) (hb : ∀ c ∈ cs, c ∈ H.flatten) (h : OpP P ⟨some d, op, ty, pos, af, some g⟩ env cs v) (hn : notDefer op = true) (hd : Nat.blt d cx.N = true)
    (k : Ops P ops l cx Q ((d, v) :: env) H) : Ops P ops (⟨some d, op, ty, pos, af, some g⟩ :: l) cx Q env H :=
  ops_eff hg (fun t ht => by cases ht; simpa using hd) hn (h.eff (u := cx.u) (H := H) hb) (by rintro _ _ ⟨rfl, rfl⟩; exact k) (fun _ _ h => h.elim)
/-- v is a part of a slice (or empty): its cells are ys; they stand in the one chunk of s. -/
def SubV (v : Value) (ys : List Value) (s : List Chunk) : Prop :=
  (∃ p c, v = .slice p 0 c ∧ ys = []) ∨ (0 < ys.length ∧ ∃ b o c cur T z, v = .slice (Option.some ⟨b, o, none⟩) ys.length c ∧ s = [(b, .cells cur T z)] ∧ CellsIn cur o ys)
theorem w_append_sub {x y : Operand} {t e : TypeId} {i : TypeInfo} {z : Value} {by_ : Nat} {v v2 : Value} {xs ys : List Value} {s s2 : List Chunk}
    (ht : P.underlying t = some (.slice e)) (hi : P.info? e = some i) (hsz : i.size = 1) (hby : i.bytes = by_) (hzi : i.zero = some z) (hz1 : z.oneCell' = true)
    (hx : ∀ a, ev a env x = v) (hrow : Row e v xs s) (hy : ∀ a, ev a env y = v2) (hsub : SubV v2 ys s2) (hone : One s H R) (htwo : One s2 R R2) (h1 : ∀ u ∈ ys, u.oneCell' = true)
    (h63 : xs.length + ys.length ≤ maxLen) (hb : (xs.length + ys.length) * by_ ≤ 140737488355328) :
    OpW P u ⟨d, .call ⟨.builtin .append, #[x, y], #[t, t]⟩, ty, pos, af, g⟩ env H (fun v' H1 => ∃ s', Row e v' (xs ++ ys) s' ∧ H1 = s' :: R) (fun _ _ => False) := by
  rcases hsub with ⟨p, c2, rfl, rfl⟩ | ⟨hp, b, o, c, cur, T, z2, rfl, rfl, hin⟩
  · obtain ⟨b, c, rfl, hle⟩ := hrow.le
    intro a w hsat K Kp hK _
    have hs1 : Sat u (s :: R) w := hsat.perm (by simpa using hone.perm)
    have hl0 : (Builtin.firstCells i.size 0 (.slice p 0 c2)).run P w = .ok #[] w := by
      cases p with
      | none => simp [Builtin.firstCells]
      | some ad => simp [Builtin.firstCells, loadCells, loadCellsFrom]
    have hr : (Builtin.append_ #[t, t] ty #[.slice b xs.length c, .slice p 0 c2]).run P w = .ok (.slice b xs.length c) w := by
      rw [hsz] at hl0
      cases b with
      | none => simp [Builtin.append_, run_underlying ht, Go.sizeOf, typeInfo, hi, hsz, Builtin.lenOf, hle, hl0]
      | some ad => simp [Builtin.append_, run_underlying ht, Go.sizeOf, typeInfo, hi, hsz, Builtin.lenOf, hle, hl0, storeCells]
    have hx' : (execOp (ev a env) ⟨d, .call ⟨.builtin .append, #[x, y], #[t, t]⟩, ty, pos, af, g⟩).run P w = .ok (.value (.slice b xs.length c)) w := by
      simp only [x_call, resolve, invoke, builtin, List.map_toArray, List.map_cons, List.map_nil, hx a, hy a, Sem.run_bind, Sem.run_pure, Result.andThen_ok, hr]
    rw [hx']
    exact hK _ _ _ ⟨s, by rw [List.append_nil]; exact hrow, rfl⟩ hs1
  · exact w_append ht hi hsz hby hzi hz1 hx hrow hy hone htwo.has hin rfl h1 hp h63 hb
end
end Gw
