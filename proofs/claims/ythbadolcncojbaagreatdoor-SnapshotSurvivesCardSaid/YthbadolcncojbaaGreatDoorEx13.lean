/- Walking by chunks: a cut (what comes behind is proved once), a segment cut in two. No function of the program is named. -/
/- JournalOpensAnything: the law. -/
/- Walking by chunks: clear of a part of a row; rows behind a sort. No function of the program is named. -/
import Derived.Test.YthbadolcncojbaaGreatDoorEx11
import Derived.Test.YthbadolcncojbaaGreatDoorOa2
import Derived.Test.YthbadolcncojbaaGreatDoorJm6
import Derived.Test.YthbadolcncojbaaGreatDoorTl2
import Derived.Sort.OwnSortedInts
import Derived.Lib.SlicesCompact
namespace Gw
open Go Go.RowKit
section
variable {P : Program} {cx : Cx} {x y : Code} {Q : Exit → Act → World → Prop} {env : Env} {H : Hp}
/-- A cut, of the slots and segments that x turns: B and R stay. -/
theorem at_cutB {e0 B : Env} {H0 R : Hp} (I : Env → Hp → Prop) (hp : Pull H0 H R) (hx : At P cx x (Exit.then (fun a w => ∃ e H1 a0, I e H1 ∧ St cx (e ++ B) (H1 ++ R) a0 w ∧ a = puts (e ++ B) a0) Q) (e0 ++ B) (H0 ++ R)) (hy : ∀ e H1, I e H1 → At P cx y Q (e ++ B) (H1 ++ R)) : At P cx (.seq x y) Q (e0 ++ B) H := fun a w hs => by
  have hs' : St cx (e0 ++ B) (H0 ++ R) a w := ⟨hs.size, hs.defers, hs.fit, hs.sat.perm hp.perm⟩
  refine wpIn_seq (wpIn_mono (hx a w hs') fun e a' w' he => ?_)
  cases e <;> first | exact he | (obtain ⟨e', H', a0, hm, hs2, rfl⟩ := he; exact hy e' H' hm a0 w' hs2)
theorem nx_cutB {I : Env → Hp → Prop} {B e' : Env} {R H' : Hp} (h : I e' H') (hp : Sub (H' ++ R) H := by repeat (first | exact Sub.refl _ | exact Sub.nil _ | (apply Sub.cons; (focus (repeat (first | exact One.here _ _ | apply One.there)))) | refine Sub.drop _ ?_)) : Nx cx ((Exit.then (fun a w => ∃ e H1 a0, I e H1 ∧ St cx (e ++ B) (H1 ++ R) a0 w ∧ a = puts (e ++ B) a0) Q) .normal) (e' ++ B) H := fun a _ hs => ⟨e', H', a, h, ⟨hs.size, hs.defers, hs.fit, hs.sat.sub hp.amid⟩, rfl⟩
end
end Gw


namespace Go.Proofs.YthbadolcncojbaaGreatDoor
open Go Go.RowKit Gw
set_option linter.unusedVariables false
set_option maxRecDepth 100000
attribute [local irreducible] Gw.At Gw.Nx Gw.Ops
theorem jr_appendR (j : JrS) (d : DiskS) (jp dp : Nat) (sj sl sd : List Chunk) (v : Value) (ls : List (List UInt8)) (Tg : TypeId) (zg : Nat × Nat) (hJ : JrR j jp dp sj) (hR : DiskR d dp sd) (hl : Row 9 v (ls.map strV) sl) (hbr : j.br = false) (hz : j.sz ≤ d.vi.length) (hk : d.pend.length ≤ 999990) (hls : ls.length ≤ 1000000) (hs : ∀ r ∈ ls, r.length ≤ 65536) (hb : (j.append d ls).2.1.rs.length ≤ 4194304) :
    Does Tryz.prog 13 #[.pointer (some ⟨jp, 0, none⟩), v] [sj, sl, sd, [(4, .cells (kTab.map u32v).toArray Tg zg)]] (fun r H' => ∃ sj' sd', r = .int .i64 (j.append d ls).1 ∧ JrR (j.append d ls).2.1 jp dp sj' ∧ DiskR (j.append d ls).2.2 dp sd' ∧ H' = [sj', sl, sd', [(4, .cells (kTab.map u32v).toArray Tg zg)]]) := by
  refine does_mono (jr_append j d jp dp sj sl sd v ls Tg zg hJ hR hl hbr hz hk hls (isLong_none hs)) ?_
  rintro r _ ⟨v', sr', sd', rfl, h1, h2, rfl⟩
  have hh : (j.append d ls).2.1.h.length = 32 := by
    have h32 := hJ.1
    unfold JrS.append
    repeat' split
    all_goals first | exact h32 | exact headL_len ls j.h h32
  exact ⟨_, ⟨_, sd', rfl, ⟨hh, hb, v', sr', h1, rfl⟩, h2, rfl⟩, by simp⟩
end Go.Proofs.YthbadolcncojbaaGreatDoor


namespace Gw
open Go Go.RowKit Go.Sort
section
variable {P : Program} {u : World} {env : Env} {H R : Hp} {d : Option Nat} {ty : TypeId} {pos : String} {af : Array Edge} {g : Option (Nat × Bool)}
theorem over_nil (c : Array Value) (k : Nat) : over c k [] = c := by
  unfold over
  apply Array.toList_inj.1
  simp
theorem w_clear_sub {x : Operand} {t e : TypeId} {i : TypeInfo} {z : Value} {gb k cap m c : Nat} {cur : Array Value} {zz : Nat × Nat}
    (ht : P.underlying t = some (.slice e)) (hi : P.info? e = some i) (hzi : i.zero = some z) (hz : z.cells = #[z]) (hz1 : z.oneCell' = true)
    (hx : ∀ a, ev a env x = .slice (cutAt (some ⟨gb, 0, none⟩) k cap 1) m c) (hm : k + m ≤ cap) (hcs : cur.size = cap) (hfr : Free zz cur.size) (hone : One [(gb, .cells cur e zz)] H R) :
    OpW P u ⟨d, .call ⟨.builtin .clear, #[x], #[t]⟩, ty, pos, af, g⟩ env H (fun _ H1 => H1 = [(gb, .cells (over cur k (List.replicate m z)) e zz)] :: R) (fun _ _ => False) := fun a w hsat K Kp hK _ => by
  have hs1 : Sat u ([(gb, .cells cur e zz)] :: R) w := hsat.perm (by simpa using hone.perm)
  have run_of : ∀ {v' : Value} {w' : World}, (Builtin.clear_ #[t] ty #[.slice (cutAt (some ⟨gb, 0, none⟩) k cap 1) m c]).run P w = .ok v' w' → (execOp (ev a env) ⟨d, .call ⟨.builtin .clear, #[x], #[t]⟩, ty, pos, af, g⟩).run P w = .ok (.value v') w' := fun h => by
    simp only [x_call, resolve, invoke, builtin, List.map_toArray, List.map_cons, List.map_nil, hx a, Sem.run_bind, Sem.run_pure, Result.andThen_ok, h]
  rcases Nat.eq_zero_or_pos m with h0 | h0
  · subst h0
    have hr : (Builtin.clear_ #[t] ty #[.slice (cutAt (some ⟨gb, 0, none⟩) k cap 1) 0 c]).run P w = .ok (.tuple #[]) w := by
      have : ∃ q, cutAt (some ⟨gb, 0, none⟩) k cap 1 = some q := by unfold cutAt; split <;> exact ⟨_, rfl⟩
      obtain ⟨q, hq⟩ := this
      rw [hq]
      simp [Builtin.clear_, run_underlying ht]
    rw [run_of hr]
    refine hK _ _ _ rfl ?_
    rw [List.replicate_zero, over_nil]
    exact hs1
  · have hq : cutAt (some ⟨gb, 0, none⟩) k cap 1 = some ⟨gb, k, none⟩ := by
      unfold cutAt; rw [if_neg (by omega), Option.map_some, add_addr, Nat.mul_one, Nat.zero_add]
    have hg := hs1.get (gb, .cells cur e zz) (by simp)
    have hzc : (Builtin.zeroCells z.cells m).toList = List.replicate m z := by rw [zeroCells_one z hz]
    have hst := run_storeCells_free (P := P) gb k e zz (Builtin.zeroCells z.cells m).toList 0 cur w hg hfr (by rw [hzc, List.length_replicate]; omega) (by rw [hzc]; intro y hy; rw [List.eq_of_mem_replicate hy]; exact hz1)
    have hr : (Builtin.clear_ #[t] ty #[.slice (cutAt (some ⟨gb, 0, none⟩) k cap 1) m c]).run P w = .ok (.tuple #[]) (w.setRow gb (over cur k (Builtin.zeroCells z.cells m).toList)) := by
      rw [hq]
      obtain ⟨m', rfl⟩ : ∃ m', m = m' + 1 := ⟨m - 1, by omega⟩
      simp [Builtin.clear_, run_underlying ht, run_zeroValue hi hzi, over] at hst ⊢
      simp [hst]
    rw [hzc] at hr
    rw [run_of hr]
    exact hK _ _ _ rfl (hs1.upd (.here _) rfl rfl rfl (setRow_heap w gb cur _ e zz hg) fun k hk => setRow_other w gb k _ hk)
end
/-- A row of integers as the sort's words have it. -/
theorem holds_free {w : World} {g : Nat} {cur : Array Value} {e : TypeId} {z : Nat × Nat} {zs : List Int} (hb : w.heap[g]? = some (.cells cur e z)) (hle : zs.length ≤ cur.size) (hfr : Free z cur.size) (ht : cur.toList.take zs.length = zs.map (Value.int .i64)) : Holds (Value.int .i64) w g 0 zs.toArray := by
  intro j hj
  have hj' : j < zs.length := by simpa using hj
  have hf := hfr j (by omega)
  have h1 : (cur.toList.take zs.length)[j]? = (zs.map (Value.int .i64))[j]? := by rw [ht]
  rw [List.getElem?_take_of_lt hj'] at h1
  refine ⟨?_, ?_⟩
  · simp only [World.cell?, hb, Nat.zero_add]
    simp only [Option.isSome_none, Bool.false_eq_true, if_false]
    rw [← Array.getElem?_toList, h1]
    simp [hj']
  · simp only [World.frozen?, hb, Nat.zero_add]
    simp; omega
theorem put_take (cur : Array Value) (ts : List Int) (h : ts.length ≤ cur.size) : (putCells (Value.int .i64) 0 ts.toArray cur).toList.take ts.length = ts.map (Value.int .i64) := by
  apply List.ext_getElem?
  intro j
  rw [List.getElem?_take]
  by_cases hj : j < ts.length
  · rw [if_pos hj, Array.getElem?_toList]
    unfold putCells
    rw [Array.getElem?_mapIdx, Array.getElem?_eq_getElem (by omega)]
    simp [hj]
  · rw [if_neg hj, List.getElem?_eq_none (by simp; omega)]
theorem put_size' (cur : Array Value) (ts : Array Int) : (putCells (Value.int .i64) 0 ts cur).size = cur.size := by simp [putCells]
/-- The memory behind a sort of a row. -/
theorem Sat.sorted {u w : World} {g n : Nat} {cur : Array Value} {e : TypeId} {z : Nat × Nat} {R : Hp} (d : Array Int) (os : Array Obj) (h : Sat u ([(g, .cells cur e z)] :: R) w) : Sat u ([(g, .cells (putCells (Value.int .i64) 0 d cur) e z)] :: R) (grow (putRow (Value.int .i64) (Sort.ahead w n) g 0 d) os) := by
  have hb := h.get (g, .cells cur e z) (by simp)
  have hg : g < w.heap.size := (Array.getElem?_eq_some_iff.1 hb).1
  have h1 : Sat u ([(g, .cells (putCells (Value.int .i64) 0 d cur) e z)] :: R) (putRow (Value.int .i64) (Sort.ahead w n) g 0 d) := by
    refine h.upd (.here _) rfl rfl rfl ?_ fun k hk => ?_
    · simp [putRow, mapBlock, Sort.ahead, Array.getElem?_modify, hb, onCells]
    · have : g ≠ k := fun e => hk e.symm
      simp [putRow, mapBlock, Sort.ahead, Array.getElem?_modify, this]
  exact h1.below ⟨rfl, rfl, rfl, by simp [grow], fun k hk => heap_grow_old _ _ hk⟩
theorem Sat.compacted {u w : World} {g n : Nat} {cur : Array Value} {e : TypeId} {z : Nat × Nat} {R : Hp} (d : Array Int) (h : Sat u ([(g, .cells cur e z)] :: R) w) : Sat u ([(g, .cells (putCells (Value.int .i64) 0 d cur) e z)] :: R) (putRow (Value.int .i64) (Sort.ahead w n) g 0 d) := by
  have := h.sorted (n := n) d #[]
  have e : grow (putRow (Value.int .i64) (Sort.ahead w n) g 0 d) #[] = putRow (Value.int .i64) (Sort.ahead w n) g 0 d := by simp [grow]; rfl
  rw [e] at this; exact this
/-- Two segments are brought together at the head. -/
theorem at_join {P : Program} {cx : Cx} {cd : Code} {Q : Exit → Act → World → Prop} {env : Env} {s1 s2 : List Chunk} {H R1 R2 : Hp} (h1 : One s1 H R1) (h2 : One s2 R1 R2) (k : At P cx cd Q env ((s1 ++ s2) :: R2)) : At P cx cd Q env H := fun a w hs =>
  k a w ⟨hs.size, hs.defers, hs.fit, hs.sat.perm (by
    simp only [List.flatten_cons, List.append_assoc]
    exact h1.perm.trans (List.Perm.append_left s1 h2.perm))⟩
end Gw
