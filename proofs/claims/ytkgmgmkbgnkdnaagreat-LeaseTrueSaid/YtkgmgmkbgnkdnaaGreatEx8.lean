/- Walking by chunks: copy, append, slices of arrays, bytes out of a string. No function of the program is named. -/
/- Walking by chunks: an own slice whose elements are of several cells: append, clear. No function of the program is named. -/
import Derived.Test.YtkgmgmkbgnkdnaaGreatEz
import Derived.Test.YtkgmgmkbgnkdnaaGreatEx4
namespace Gw
open Go Go.RowKit
section
variable {P : Program} {env : Env} {d : Option Nat} {ty : TypeId} {pos : String} {af : Array Edge} {g : Option (Nat × Bool)}
section
variable {t e : TypeId} {n : Nat} {x lo hi : Operand} {b o l h s : Nat} {lk hk : IntKind}
theorem p_slice_arr_all (hu : P.underlying t = some (.array n e)) (hs : ∀ w : World, (Go.sizeOf e).run P w = .ok s w) (hx : ∀ a, ev a env x = .pointer (some ⟨b, o, none⟩)) :
    OpP P ⟨d, .slice t x none none none, ty, pos, af, g⟩ env [] (.slice (some ⟨b, o, none⟩) n n) := fun a w _ => by
  simp [x_slice, hx a, Instr.sliceAt, run_underlying hu, Instr.sureAddr, Instr.sliceBounds, hs, Addr.add]
end
variable {u : World} {H H' R : Hp}
def CellsIn (c : Array Value) (o : Nat) (cs : List Value) : Prop := (c.toList.drop o).take cs.length = cs
theorem CellsIn.get {c : Array Value} {o : Nat} {cs : List Value} (h : CellsIn c o cs) (j : Nat) (v : Value) (hj : cs[j]? = some v) : c[o + j]? = some v := by
  have hlt : j < cs.length := (List.getElem?_eq_some_iff.1 hj).1
  have h1 : ((c.toList.drop o).take cs.length)[j]? = cs[j]? := by rw [h]
  rw [List.getElem?_take, if_pos hlt, List.getElem?_drop, Array.getElem?_toList, hj] at h1
  exact h1
theorem cells_at {w : World} {b o : Nat} {c : Array Value} {T : TypeId} {z : Nat × Nat} {cs : List Value} (hb : w.heap[b]? = some (.cells c T z)) (h : CellsIn c o cs) : ∀ j v, cs[j]? = some v → w.cell? ((⟨b, o, none⟩ : Addr).add j) = some v := fun j v hj => by
  rw [add_addr]; exact sat_cell hb (h.get j v hj)
def Row (e : TypeId) (v : Value) (xs : List Value) (s : List Chunk) : Prop :=
  (v = .slice none 0 0 ∧ xs = [] ∧ s = []) ∨
  ∃ g cap cur z, v = .slice (some ⟨g, 0, none⟩) xs.length cap ∧ s = [(g, .cells cur e z)] ∧ xs.length ≤ cap ∧ cap ≤ maxLen ∧ cur.size = cap ∧ cur.toList.take xs.length = xs ∧ Free z cur.size
theorem Row.form {e : TypeId} {v : Value} {xs : List Value} {s : List Chunk} (h : Row e v xs s) : ∃ b cap, v = .slice b xs.length cap := by
  rcases h with ⟨rfl, rfl, rfl⟩ | ⟨g, cap, cur, z, rfl, _⟩
  · exact ⟨none, 0, rfl⟩
  · exact ⟨some ⟨g, 0, none⟩, cap, rfl⟩
theorem Row.some {e : TypeId} {v : Value} {xs : List Value} {s : List Chunk} (h : Row e v xs s) (hn : 0 < xs.length) : ∃ g cap cur z, v = .slice (some ⟨g, 0, none⟩) xs.length cap ∧ s = [(g, .cells cur e z)] ∧ xs.length ≤ cap ∧ cap ≤ maxLen ∧ cur.size = cap ∧ cur.toList.take xs.length = xs ∧ Free z cur.size := by
  rcases h with ⟨_, rfl, _⟩ | h
  · cases hn
  · exact h
end
end Gw

namespace Gw
open Go Go.RowKit

theorem at_nil {P : Program} {cx : Cx} {c : Code} {Q : Exit → Act → World → Prop} {env : Env} {H : Hp} (h : At P cx c Q env ([] :: H)) : At P cx c Q env H := at_flat (H' := [] :: H) rfl h
def RowS (sz : Nat) (e : TypeId) (v : Value) (k : Nat) (xs : List Value) (s : List Chunk) : Prop :=
  xs.length = k * sz ∧ ((v = .slice none 0 0 ∧ k = 0 ∧ s = []) ∨
  ∃ g cap cur z, v = .slice (some ⟨g, 0, none⟩) k cap ∧ s = [(g, .cells cur e z)] ∧ k ≤ cap ∧ cap ≤ maxLen ∧ cur.size = cap * sz ∧ cur.toList.take (k * sz) = xs ∧ Free z cur.size)
theorem rowS_nil (sz : Nat) (e : TypeId) : RowS sz e (.slice none 0 0) 0 [] [] := ⟨by simp, .inl ⟨rfl, rfl, rfl⟩⟩
theorem RowS.form {sz : Nat} {e : TypeId} {v : Value} {k : Nat} {xs : List Value} {s : List Chunk} (h : RowS sz e v k xs s) : ∃ b cap, v = .slice b k cap := by
  rcases h with ⟨_, ⟨rfl, rfl, rfl⟩ | ⟨g, cap, cur, z, rfl, _⟩⟩
  · exact ⟨none, 0, rfl⟩
  · exact ⟨some ⟨g, 0, none⟩, cap, rfl⟩
theorem RowS.cut {sz : Nat} {e : TypeId} {b : Option Addr} {n cap k : Nat} {xs : List Value} {s : List Chunk} (h : RowS sz e (.slice b n cap) k xs s) : RowS sz e (.slice b 0 cap) 0 [] s := by
  rcases h with ⟨_, ⟨h1, rfl, rfl⟩ | ⟨g, cap', cur, z, h1, rfl, hle, hcm, hcs, htk, hfr⟩⟩
  · simp only [Value.slice.injEq] at h1
    obtain ⟨rfl, rfl, rfl⟩ := h1
    exact rowS_nil sz e
  · simp only [Value.slice.injEq] at h1
    obtain ⟨rfl, rfl, rfl⟩ := h1
    exact ⟨by simp, .inr ⟨g, cap, cur, z, rfl, rfl, Nat.zero_le _, hcm, hcs, by simp, hfr⟩⟩
section
variable {P : Program} {u : World} {env : Env} {H R : Hp} {d : Option Nat} {ty : TypeId} {pos : String} {af : Array Edge} {g : Option (Nat × Bool)}
theorem w_appendW {x y : Operand} {t e : TypeId} {i : TypeInfo} {z : Value} {by_ sz k : Nat} {v : Value} {xs : List Value} {s : List Chunk} {b o m c : Nat} {news : List Value}
    (ht : P.underlying t = some (.slice e)) (hi : P.info? e = some i) (hsz : i.size = sz) (hby : i.bytes = by_) (hzi : i.zero = some z) (hz1 : z.cells.size = sz)
    (hx : ∀ a, ev a env x = v) (hrow : RowS sz e v k xs s) (hy : ∀ a, ev a env y = .slice (some ⟨b, o, none⟩) m c) (hone : One s H R) (hnw0 : ∀ w, Sat u R w → ∀ j v, news[j]? = some v → w.cell? ((⟨b, o, none⟩ : Addr).add j) = some v) (hl : news.length = m * sz) (h1 : ∀ u ∈ news, u.oneCell' = true)
    (hm : 0 < m) (h63 : k + m ≤ maxLen) (hb : (k + m) * by_ ≤ 140737488355328) :
    OpW P u ⟨d, .call ⟨.builtin .append, #[x, y], #[t, t]⟩, ty, pos, af, g⟩ env H (fun v' H1 => ∃ s', RowS sz e v' (k + m) (xs ++ news) s' ∧ H1 = s' :: R) (fun _ _ => False) := fun a w hsat K Kp hK _ => by
  have hs1 : Sat u (s :: R) w := hsat.perm (by simpa using hone.perm)
  have hsR : Sat u R w := hs1.sub ⟨s, by simp only [List.flatten_cons]; exact List.perm_append_comm⟩
  have hnw := hnw0 w hsR
  have hl' : news.length = m * i.size := by rw [hsz]; omega
  have hml : maxLen = 9223372036854775807 := rfl
  have run_of : ∀ {v' : Value} {w' : World}, (Builtin.append_ #[t, t] ty #[v, .slice (some ⟨b, o, none⟩) m c]).run P w = .ok v' w' → (execOp (ev a env) ⟨d, .call ⟨.builtin .append, #[x, y], #[t, t]⟩, ty, pos, af, g⟩).run P w = .ok (.value v') w' := fun h => by
    simp only [x_call, resolve, invoke, builtin, List.map_toArray, List.map_cons, List.map_nil, hx a, hy a, Sem.run_bind, Sem.run_pure, Result.andThen_ok, h]
  have fresh : ∀ (n cap : Nat) (cells : Array Value) (w1 : World), w1 = { w with drawn := n, heap := w.heap.push (.cells cells e) } → Sat u ([(w.heap.size, .cells cells e (0, 0))] :: R) w1 := fun n cap cells w1 h => by
    subst h
    exact (hsR.drawn n).alloc _
  obtain ⟨hxl, hrow⟩ := hrow
  have hall : (xs ++ news).length = (k + m) * sz := by rw [List.length_append, hxl, hl, Nat.add_mul]
  have split : ∀ n p : Nat, p ≤ n → p * sz + (n - p) * sz = n * sz := fun n p h => by rw [← Nat.add_mul]; congr 1; omega
  rcases hrow with ⟨rfl, rfl, rfl⟩ | ⟨gb, cap, cur, zz, rfl, rfl, hle, hcm, hcs, htk, hfr⟩
  · have hx0 : xs = [] := List.eq_nil_of_length_eq_zero (by omega)
    subst hx0
    have hr := run_append_nil (P := P) w t ty e i z ht hi hzi ⟨b, o, none⟩ m c news hl' hnw hm (by omega) (by rw [hby]; exact Nat.le_trans (by simpa using hb) (by decide : 140737488355328 ≤ 281474976710656))
    rw [run_of hr]
    have hge := grownCap_ge w m 0 e
    have hcap : grownCap w m 0 e ≤ maxLen := grownCap_le_maxLen w m 0 e (by omega)
    refine hK _ _ _ ⟨[(w.heap.size, .cells (news.toArray ++ Builtin.zeroCells z.cells (grownCap w m 0 e - m)) e (0, 0))], ⟨hall, .inr ⟨w.heap.size, grownCap w m 0 e, _, (0, 0), by simp, rfl, by omega, hcap, ?_, ?_, free_zero _⟩⟩, rfl⟩ (fresh _ 0 _ _ rfl)
    · simp only [Array.size_append, size_zeroCells, hz1, List.size_toArray, hl]
      exact split _ _ hge
    · simp only [Array.toList_append, List.nil_append, Nat.zero_add]
      exact List.take_left' hl
  · have hg := hs1.get (gb, .cells cur e zz) (by simp)
    by_cases hroom : k + m ≤ cap
    · have hf := run_firstCells_some (P := P) w i.size m ⟨b, o, none⟩ m c news hl' hnw
      rw [hsz] at hf
      have hfit : k * sz + m * sz ≤ cap * sz := by rw [← Nat.add_mul]; exact Nat.mul_le_mul_right sz hroom
      have hst := run_storeCells_free (P := P) gb (k * sz) e zz news 0 cur w hg hfr (by rw [hl, hcs]; omega) h1
      simp only [Nat.add_zero] at hst
      have hr : (Builtin.append_ #[t, t] ty #[.slice (some ⟨gb, 0, none⟩) k cap, .slice (some ⟨b, o, none⟩) m c]).run P w = .ok (.slice (some ⟨gb, 0, none⟩) (k + m) cap) (w.setRow gb (over cur (k * sz) news)) := by
        simp [Builtin.append_, run_underlying ht, Go.sizeOf, typeInfo, hi, hsz, Builtin.lenOf, hroom, hf, add_addr, hst, over]
      rw [run_of hr]
      have hov : (over cur (k * sz) news).size = cap * sz := by
        unfold over; simp; omega
      refine hK _ _ _ ⟨[(gb, .cells (over cur (k * sz) news) e zz)], ⟨hall, .inr ⟨gb, cap, _, zz, rfl, rfl, hroom, hcm, hov, ?_, by rw [hov, ← hcs]; exact hfr⟩⟩, rfl⟩
        (hs1.upd (.here _) rfl rfl rfl (setRow_heap w gb cur _ e zz hg) fun k hk => setRow_other w gb k _ hk)
      unfold over
      rw [htk]
      simp only [List.append_assoc]
      rw [← List.append_assoc]
      exact List.take_left' hall
    · have holds : ∀ j v, xs[j]? = some v → w.cell? ((⟨gb, 0, none⟩ : Addr).add j) = some v := fun j v hj => by
        rw [add_addr]
        refine sat_cell hg ?_
        have hlt : j < xs.length := (List.getElem?_eq_some_iff.1 hj).1
        have : (cur.toList.take (k * sz))[j]? = some v := by rw [htk]; exact hj
        rw [List.getElem?_take, if_pos (by omega)] at this
        simpa using this
      have hr := run_append_grow (P := P) w t ty e i z ht hi hzi ⟨gb, 0, none⟩ k cap xs (by rw [hsz]; exact hxl) holds ⟨b, o, none⟩ m c news hl' hnw (by omega) (by omega) (growslice_fits (by omega) (by rw [hby]; exact hb))
      rw [run_of hr]
      have hge := grownCap_ge w (k + m) cap e
      have hcap : grownCap w (k + m) cap e ≤ maxLen := grownCap_le_maxLen w (k + m) cap e h63
      refine hK _ _ _ ⟨[(w.heap.size, .cells (xs.toArray ++ news.toArray ++ Builtin.zeroCells z.cells (grownCap w (k + m) cap e - (k + m))) e (0, 0))], ⟨hall, .inr ⟨w.heap.size, grownCap w (k + m) cap e, _, (0, 0), rfl, rfl, hge, hcap, ?_, ?_, free_zero _⟩⟩, rfl⟩ (fresh _ 0 _ _ rfl)
      · simp only [Array.size_append, size_zeroCells, hz1, List.size_toArray, hl, hxl]
        have := split _ _ hge
        rw [Nat.add_mul] at this
        exact this
      · simp only [Array.toList_append]
        exact List.take_left' (by simpa using hall)
theorem w_appendS {x y : Operand} {t e : TypeId} {i : TypeInfo} {z : Value} {by_ sz k : Nat} {v : Value} {xs : List Value} {s : List Chunk} {b o m c : Nat} {c1 : Array Value} {T1 : TypeId} {z1 : Nat × Nat} {news : List Value}
    (ht : P.underlying t = some (.slice e)) (hi : P.info? e = some i) (hsz : i.size = sz) (hby : i.bytes = by_) (hzi : i.zero = some z) (hz1 : z.cells.size = sz)
    (hx : ∀ a, ev a env x = v) (hrow : RowS sz e v k xs s) (hy : ∀ a, ev a env y = .slice (some ⟨b, o, none⟩) m c) (hone : One s H R) (hsrc : Has b (.cells c1 T1 z1) R) (hnews : CellsIn c1 o news) (hl : news.length = m * sz) (h1 : ∀ u ∈ news, u.oneCell' = true)
    (hm : 0 < m) (h63 : k + m ≤ maxLen) (hb : (k + m) * by_ ≤ 140737488355328) :
    OpW P u ⟨d, .call ⟨.builtin .append, #[x, y], #[t, t]⟩, ty, pos, af, g⟩ env H (fun v' H1 => ∃ s', RowS sz e v' (k + m) (xs ++ news) s' ∧ H1 = s' :: R) (fun _ _ => False) :=
  w_appendW ht hi hsz hby hzi hz1 hx hrow hy hone (fun w hs => cells_at (hs.get _ hsrc.mem) hnews) hl h1 hm h63 hb
end
end Gw
