/- Walking by chunks: append to a part of a row whose capacity is its length: a new row. No function of the program is named. -/
/- Records in plain words: a log that can be applied. -/
import Derived.Test.YtcbjoojdfelgaaaGreatDoorEz
import Derived.Test.YtcbjoojdfelgaaaGreatDoorEx16
import Derived.Test.YtcbjoojdfelgaaaGreatDoorLg9
namespace Gw
open Go Go.RowKit
theorem One.memF {s : List Chunk} {H R : Hp} (h : One s H R) : ∀ p ∈ s, p ∈ H.flatten := fun p hp => by
  have := h.perm.mem_iff (a := p)
  exact this.2 (List.mem_append_left _ hp)
section
variable {P : Program} {u : World} {env : Env} {H R R2 : Hp} {d : Option Nat} {ty : TypeId} {pos : String} {af : Array Edge} {g : Option (Nat × Bool)}
theorem w_append_freshS {x y : Operand} {t e : TypeId} {i : TypeInfo} {z : Value} {by_ sz n k : Nat} {b : Option Addr} {v2 : Value} {xs ys : List Value} {s s2 : List Chunk}
    (ht : P.underlying t = some (.slice e)) (hi : P.info? e = some i) (hsz : i.size = sz) (hby : i.bytes = by_) (hzi : i.zero = some z) (hz1 : z.cells.size = sz)
    (hx : ∀ a, ev a env x = .slice b n n) (hsub : SubVS sz (.slice b n n) n xs s) (hy : ∀ a, ev a env y = v2) (hsub2 : SubVS sz v2 k ys s2) (hone : One s H R) (htwo : One s2 H R2) (hk : 0 < k)
    (h63 : n + k ≤ maxLen) (hb : (n + k) * by_ ≤ 140737488355328) :
    OpW P u ⟨d, .call ⟨.builtin .append, #[x, y], #[t, t]⟩, ty, pos, af, g⟩ env H (fun v' H1 => ∃ s', RowS sz e v' (n + k) (xs ++ ys) s' ∧ H1 = s' :: H) (fun _ _ => False) := by
  obtain ⟨hl2, ⟨h0, _⟩ | ⟨g2, o2, cap2, cur2, T2, z2, rfl, rfl, hin2⟩⟩ := hsub2
  · omega
  intro a w hsat K Kp hK _
  have hnw := cells_at (hsat.get _ (htwo.memF (g2, .cells cur2 T2 z2) (by simp))) hin2
  have hl' : ys.length = k * i.size := by rw [hsz]; exact hl2
  have hml : maxLen = 9223372036854775807 := rfl
  have run_of : ∀ {v' : Value} {w' : World}, (Builtin.append_ #[t, t] ty #[.slice b n n, .slice (some ⟨g2, o2, none⟩) k cap2]).run P w = .ok v' w' → (execOp (ev a env) ⟨d, .call ⟨.builtin .append, #[x, y], #[t, t]⟩, ty, pos, af, g⟩).run P w = .ok (.value v') w' := fun h => by
    simp only [x_call, resolve, invoke, builtin, List.map_toArray, List.map_cons, List.map_nil, hx a, hy a, Sem.run_bind, Sem.run_pure, Result.andThen_ok, h]
  have fresh : ∀ (m : Nat) (cells : Array Value) (w1 : World), w1 = { w with drawn := m, heap := w.heap.push (.cells cells e) } → Sat u ([(w.heap.size, .cells cells e (0, 0))] :: H) w1 := fun m cells w1 h => by
    subst h
    exact (hsat.drawn m).alloc _
  have hall : (xs ++ ys).length = (n + k) * sz := by rw [List.length_append, hsub.1, hl2, Nat.add_mul]
  have split : ∀ m p : Nat, p ≤ m → p * sz + (m - p) * sz = m * sz := fun m p h => by rw [← Nat.add_mul]; congr 1; omega
  have grow : ∀ (ad : Addr), b = some ad → (∀ j v, xs[j]? = some v → w.cell? (ad.add j) = some v) → upon2 P K Kp ((execOp (ev a env) ⟨d, .call ⟨.builtin .append, #[x, y], #[t, t]⟩, ty, pos, af, g⟩).run P w) := fun ad hb0 holds => by
    subst hb0
    have hr := run_append_grow (P := P) w t ty e i z ht hi hzi ad n n xs (by rw [hsz]; exact hsub.1) holds ⟨g2, o2, none⟩ k cap2 ys hl' hnw (by omega) (by omega) (growslice_fits (by omega) (by rw [hby]; exact hb))
    rw [run_of hr]
    have hge := grownCap_ge w (n + k) n e
    have hcap : grownCap w (n + k) n e ≤ maxLen := grownCap_le_maxLen w (n + k) n e h63
    refine hK _ _ _ ⟨[(w.heap.size, .cells (xs.toArray ++ ys.toArray ++ Builtin.zeroCells z.cells (grownCap w (n + k) n e - (n + k))) e (0, 0))], ⟨hall, .inr ⟨w.heap.size, grownCap w (n + k) n e, _, (0, 0), rfl, rfl, hge, hcap, ?_, ?_, free_zero _⟩⟩, rfl⟩ (fresh _ _ _ rfl)
    · simp only [Array.size_append, size_zeroCells, hz1, List.size_toArray]
      have h1 := split _ _ hge
      rw [List.length_append] at hall
      rw [hall]
      exact h1
    · simp only [Array.toList_append]
      exact List.take_left' (by simpa using hall)
  obtain ⟨hl, ⟨h0, b9, c9, hb9⟩ | ⟨g1, o1, cap1, cur1, T1, z1, hv, rfl, hin1⟩⟩ := hsub
  · subst h0
    have hx0 : xs = [] := List.eq_nil_of_length_eq_zero (by omega)
    cases b with
    | some ad => exact grow ad rfl (fun j v hj => by rw [hx0] at hj; cases hj)
    | none =>
      subst hx0
      have hr := run_append_nil (P := P) w t ty e i z ht hi hzi ⟨g2, o2, none⟩ k cap2 ys hl' hnw hk (by omega) (by rw [hby]; exact Nat.le_trans (by simpa using hb) (by decide : 140737488355328 ≤ 281474976710656))
      rw [run_of hr]
      have hge := grownCap_ge w k 0 e
      have hcap : grownCap w k 0 e ≤ maxLen := grownCap_le_maxLen w k 0 e (by omega)
      refine hK _ _ _ ⟨[(w.heap.size, .cells (ys.toArray ++ Builtin.zeroCells z.cells (grownCap w k 0 e - k)) e (0, 0))], ⟨hall, .inr ⟨w.heap.size, grownCap w k 0 e, _, (0, 0), by simp, rfl, by omega, hcap, ?_, ?_, free_zero _⟩⟩, rfl⟩ (fresh _ _ _ rfl)
      · simp only [Array.size_append, size_zeroCells, hz1, List.size_toArray, hl2]
        exact split _ _ hge
      · simp only [Array.toList_append, List.nil_append, Nat.zero_add]
        exact List.take_left' hl2
  · injection hv with hv1 hv2 hv3
    refine grow ⟨g1, o1, none⟩ hv1 fun j v hj => ?_
    have h9 := cells_at (hsat.get _ (hone.memF (g1, .cells cur1 T1 z1) (by simp))) hin1
    exact h9 j v hj
theorem p_slice_slice3_to {t e : TypeId} {x hi mx : Operand} {b : Option Addr} {n cap h s : Nat} {hk mk : IntKind} (hu : P.underlying t = some (.slice e)) (hs : ∀ w : World, (Go.sizeOf e).run P w = .ok s w) (hx : ∀ a, ev a env x = .slice b n cap) (hh : ∀ a, ev a env hi = .int hk (h : Int)) (hm : ∀ a, ev a env mx = .int mk (h : Int)) (h2 : h ≤ cap) :
    OpP P ⟨d, .slice t x none (some hi) (some mx), ty, pos, af, g⟩ env [] (.slice b h h) := fun a w _ => by
  cases b <;> simp [x_slice, hx a, hh a, hm a, Instr.sliceAt, Instr.slice, run_underlying hu, Instr.sliceBounds, Instr.sliceBound, asIntOf, h2, hs, Addr.add]
theorem rowS_new (sz : Nat) (e : TypeId) (g k : Nat) (xs : List Value) (h : xs.length = k * sz) (hk : k ≤ maxLen) : RowS sz e (.slice (some ⟨g, 0, none⟩) k k) k xs [(g, .cells xs.toArray e (0, 0))] :=
  ⟨h, .inr ⟨g, k, xs.toArray, (0, 0), rfl, rfl, Nat.le_refl _, hk, by simp [h], List.take_of_length_le (by simp [h]), free_zero _⟩⟩
end
end Gw


namespace Go.Proofs.YtcbjoojdfelgaaaGreatDoor
open Go.Proofs.Tryz
open Go Go.RowKit Gw
set_option linter.unusedVariables false
set_option linter.unusedSimpArgs false
set_option maxRecDepth 100000
attribute [local irreducible] Gw.At Gw.Nx Gw.Ops
/-- A record that lies in memory. -/
structure RecM where
  p : Int
  q : Option Addr
  cap : Nat
  cs : List Chg
def recCells (l : List RecM) : List Value := l.flatMap (fun r => [.int .i64 r.p, .slice r.q r.cs.length r.cap])
def RecsIn (M : List Chunk) (v : Value) (l : List RecM) : Prop := ∃ p cap, v = .slice p l.length cap ∧ (l.length ≤ maxLen ∧ l.length ≤ cap) ∧ ∀ (i : Nat) (r : RecM), l[i]? = some r → ChgsIn M (.slice r.q r.cs.length r.cap) r.cs ∧ ∃ g off cur T zz, p = some ⟨g, off, none⟩ ∧ (g, Obj.cells cur T zz) ∈ M ∧ off + i * 2 + 2 ≤ cur.size ∧ cur.extract (off + i * 2) (off + i * 2 + 2) = #[.int .i64 r.p, .slice r.q r.cs.length r.cap]
/-- The rows after records. -/
def rowsOf (l : List RecM) : List RowM := l.foldl (fun rs r => putAllR rs r.cs) []
theorem rowsOf_snoc (l : List RecM) (r : RecM) : rowsOf (l ++ [r]) = putAllR (rowsOf l) r.cs := by unfold rowsOf; rw [List.foldl_append]; rfl
/-- The records can be applied, one after the other. -/
def LogOk (l : List RecM) : Prop := ∀ (i : Nat) (r : RecM), l[i]? = some r → AppOk (rowsOf (l.take i)) (i : Int) r.p r.cs ∧ r.cs.length ≤ 3
theorem app_sorted {rs : List RowM} {p rp : Int} {cs : List Chg} (hs : SortedR rs) (h : AppOk rs p rp cs) : SortedR (putAllR rs cs) ∧ (putAllR rs cs).length ≤ 2000 := by
  have ha := asc_of h.ok.ord
  obtain ⟨h1, _⟩ := fold_inv hs ha h.fit cs.length (Nat.le_refl _)
  have h2 := len_putAll hs ha h.fit cs.length (Nat.le_refl _)
  rw [List.take_length] at h1 h2
  exact ⟨h1, by have := h.size; omega⟩
theorem LogOk.rows {l : List RecM} (h : LogOk l) : ∀ i, i ≤ l.length → SortedR (rowsOf (l.take i)) ∧ (rowsOf (l.take i)).length ≤ 2000
  | 0, _ => ⟨List.Pairwise.nil, Nat.zero_le _⟩
  | i + 1, hi => by
    obtain ⟨r, hr⟩ : ∃ r, l[i]? = some r := ⟨_, List.getElem?_eq_getElem (by omega)⟩
    have ih := LogOk.rows h i (by omega)
    rw [List.take_add_one, hr]
    show SortedR (rowsOf (l.take i ++ [r])) ∧ _
    rw [show (some r).toList = [r] from rfl, rowsOf_snoc]
    exact app_sorted ih.1 (h i r hr).1
theorem LogOk.all {l : List RecM} (h : LogOk l) : SortedR (rowsOf l) ∧ (rowsOf l).length ≤ 2000 := by
  have := h.rows l.length (Nat.le_refl _)
  rwa [List.take_length] at this
theorem LogOk.snoc {l : List RecM} (h : LogOk l) {r : RecM} (hr : AppOk (rowsOf l) (l.length : Int) r.p r.cs) (h3 : r.cs.length ≤ 3) : LogOk (l ++ [r]) := by
  intro i x hx
  rw [List.getElem?_append] at hx
  split at hx
  · rename_i hi
    rw [List.take_append_of_le_length (by omega)]
    exact h i x hx
  · rename_i hi
    have hlt := (List.getElem?_eq_some_iff.1 hx).1
    simp only [List.length_singleton] at hlt
    have e : i = l.length := by omega
    subst e
    rw [Nat.sub_self] at hx
    injection hx with hx
    subst hx
    rw [List.take_left' rfl]
    exact ⟨hr, h3⟩
theorem chgCells_len : ∀ (cs : List Chg), (chgCells cs).length = cs.length * 10
  | [] => rfl
  | c :: cs => by
    have := chgCells_len cs
    unfold chgCells at *
    rw [List.flatMap_cons, List.length_append, this, List.length_cons]; simp; omega
theorem chgCells_app (a b : List Chg) : chgCells (a ++ b) = chgCells a ++ chgCells b := by unfold chgCells; rw [List.flatMap_append]
theorem chgCells_take (cs : List Chg) (k : Nat) : (chgCells cs).take (k * 10) = chgCells (cs.take k) := by
  rcases Nat.lt_or_ge cs.length k with h | h
  · rw [List.take_of_length_le (by rw [chgCells_len]; omega), List.take_of_length_le (by omega)]
  · have e : chgCells cs = chgCells (cs.take k) ++ chgCells (cs.drop k) := by rw [← chgCells_app, List.take_append_drop]
    rw [e, List.take_left' (by rw [chgCells_len, List.length_take]; omega)]
theorem chgCells_drop (cs : List Chg) (k : Nat) : (chgCells cs).drop (k * 10) = chgCells (cs.drop k) := by
  rcases Nat.lt_or_ge cs.length k with h | h
  · rw [List.drop_of_length_le (by rw [chgCells_len]; omega), List.drop_of_length_le (by omega)]; rfl
  · have e : chgCells cs = chgCells (cs.take k) ++ chgCells (cs.drop k) := by rw [← chgCells_app, List.take_append_drop]
    rw [e, List.drop_left' (by rw [chgCells_len, List.length_take]; omega)]
theorem chgCells_one (cs : List Chg) : ∀ u ∈ chgCells cs, u.oneCell' = true := by
  intro u hu
  unfold chgCells at hu
  obtain ⟨r, _, h⟩ := List.mem_flatMap.1 hu
  simp only [List.mem_cons, List.not_mem_nil, or_false] at h
  rcases h with rfl | rfl | rfl | rfl | rfl | rfl | rfl | rfl | rfl | rfl <;> rfl
theorem chg_at {cur : Array Value} {cs : List Chg} {j : Nat} {y : Chg} (h : CellsIn cur 0 (chgCells cs)) (hy : cs[j]? = some y) : cur[j * 10]? = some (.int .i64 y.t) ∧ cur[j * 10 + 1]? = some (.int .i64 y.k) := by
  have h1 := flat_at (fun c : Chg => [.int .i64 c.t, .int .i64 c.k, .bool c.had, .int .i64 c.o.a, .int .i64 c.o.b, .int .i64 c.o.c, .bool c.has, .int .i64 c.n.a, .int .i64 c.n.b, .int .i64 c.n.c]) 10 (fun _=>rfl) cs j y hy
  have e : ∀ q, ((chgCells cs).drop (j * 10)).take 10 = [.int .i64 y.t, .int .i64 y.k, .bool y.had, .int .i64 y.o.a, .int .i64 y.o.b, .int .i64 y.o.c, .bool y.has, .int .i64 y.n.a, .int .i64 y.n.b, .int .i64 y.n.c] → q < 10 → (chgCells cs)[j * 10 + q]? = ([.int .i64 y.t, .int .i64 y.k, .bool y.had, .int .i64 y.o.a, .int .i64 y.o.b, .int .i64 y.o.c, .bool y.has, .int .i64 y.n.a, .int .i64 y.n.b, .int .i64 y.n.c] : List Value)[q]? := fun q h9 hq => by
    rw [← h9, List.getElem?_take, if_pos hq, List.getElem?_drop]
  have a0 := h.get (j * 10 + 0) _ ((e 0 h1 (by omega)).trans rfl)
  have a1 := h.get (j * 10 + 1) _ ((e 1 h1 (by omega)).trans rfl)
  rw [Nat.zero_add] at a0 a1
  exact ⟨a0, a1⟩
theorem chgsIn_more {M : List Chunk} {v : Value} {cs : List Chg} (h : ChgsIn M v cs) (s : List Chunk) : ChgsIn (M ++ s) v cs := by
  obtain ⟨p, cap, hv, hl, hg⟩ := h
  refine ⟨p, cap, hv, hl, fun i c hc => ?_⟩
  obtain ⟨g, off, cur, T, zz, h1, h2, h3⟩ := hg i c hc
  exact ⟨g, off, cur, T, zz, h1, List.mem_append_left _ h2, h3⟩
theorem chgsIn_right {M : List Chunk} {v : Value} {cs : List Chg} (h : ChgsIn M v cs) (s : List Chunk) : ChgsIn (s ++ M) v cs := by
  obtain ⟨p, cap, hv, hl, hg⟩ := h
  refine ⟨p, cap, hv, hl, fun i c hc => ?_⟩
  obtain ⟨g, off, cur, T, zz, h1, h2, h3⟩ := hg i c hc
  exact ⟨g, off, cur, T, zz, h1, List.mem_append_right _ h2, h3⟩
/-- In the memory M the value v is a row of six integers each. -/
def SixIn (M : List Chunk) (v : Value) (xs : List (List Int)) : Prop := ∃ p cap, v = .slice p xs.length cap ∧ (xs.length ≤ maxLen ∧ xs.length ≤ cap) ∧ ∀ (i : Nat) (z : List Int), xs[i]? = some z → z.length = 6 ∧ (∀ n ∈ z, -9223372036854775808 ≤ n ∧ n ≤ 9223372036854775807) ∧ ∃ g off cur T zz, p = some ⟨g, off, none⟩ ∧ (g, Obj.cells cur T zz) ∈ M ∧ ∀ (j : Nat) (n : Int), z[j]? = some n → cur[off + i * 6 + j]? = some (.int .i64 n)
theorem recsIn_of {v : Value} {l : List RecM} {s MM : List Chunk} (h : RowS 2 43 v l.length (recCells l) s) (hn : l.length ≤ maxLen) (hM : ∀ r ∈ l, ChgsIn MM (.slice r.q r.cs.length r.cap) r.cs) : RecsIn (s ++ MM) v l := by
  obtain ⟨b, cap, rfl⟩ := h.form
  refine ⟨b, cap, rfl, ⟨hn, rowS_le h⟩, fun i r hr => ⟨chgsIn_right (hM r (List.mem_of_getElem? hr)) s, ?_⟩⟩
  obtain ⟨g, cap', cur, z, hv, rfl, hsz, hex⟩ := rowS_ext h i (List.getElem?_eq_some_iff.1 hr).1
  injection hv with hv1 hv2 hv3
  refine ⟨g, 0, cur, 43, z, hv1, List.mem_append_left _ (List.mem_singleton.2 rfl), by omega, ?_⟩
  rw [Nat.zero_add]
  apply Array.toList_inj.1
  rw [hex]
  exact flat_at _ 2 (fun _=>rfl) l i r hr
theorem recCells_app (a b : List RecM) : recCells (a ++ b) = recCells a ++ recCells b := by unfold recCells; rw [List.flatMap_append]

theorem r4_new : Does Tryz.prog 37 #[] [] (fun r H' => ∃ sp, r = .pointer (some ⟨sp, 0, none⟩) ∧ H' = [[(sp, .cells #[.slice none 0 0, .int .i64 0] 31 (0, 0))]]) := by
 refine spec_enter func37 rfl ntmps37 rfl ?_
 intro u R
 refine Zb [] ?_
 refine Zq <| Zg <| Za Y <| Z0 <| Zx <| Zq <| Zg <| Zv (p_build (vs := []) (cs := #[_, _]) Y (run_build_struct (pl := #[(0, 1), (1, 1)]) zeroValue31 underlying31 (fun _ => by kernel_rfl) rfl)) ?_
 refine Ze (w_box Y (cs := #[_, _]) rfl) ?_
 rintro _ _ ⟨sp, rfl, rfl⟩
 refine Za Y <| Z0 <| Zx <| at_ret ?_
 refine nx_end1 rfl results37 Y (by exact ⟨sp, rfl, rfl⟩)

end Go.Proofs.YtcbjoojdfelgaaaGreatDoor
