/- Walking by chunks: append to a part of a row whose capacity is its length: a new row. No function of the program is named. -/
/- Records in plain words: a log that can be applied. -/
/- Walking by chunks: maps, with keys of any type that has a law of keys (structs of integers too): made, looked up, stored to, deleted from, counted. No function of the program is named. -/
import Derived.Test.YtjeepldonhgohaaGreatDoorEz
import Derived.Test.YtjeepldonhgohaaGreatDoorLg8
import Derived.Test.YtjeepldonhgohaaGreatDoorLg9
import Derived.Test.YtjeepldonhgohaaGreatDoorEx5
import Derived.DeepKeys3
import Derived.WideKeyMaps
import Derived.MapKept
namespace Gw
open Go Go.RowKit
theorem One.memF {s : List Chunk} {H R : Hp} (h : One s H R) : ∀ p ∈ s, p ∈ H.flatten := fun p hp => by
  have := h.perm.mem_iff (a := p)
  exact this.2 (List.mem_append_left _ hp)
section
variable {P : Program} {u : World} {env : Env} {H R R2 : Hp} {d : Option Nat} {ty : TypeId} {pos : String} {af : Array Edge} {g : Option (Nat × Bool)}
theorem w_append_freshS {x y : Operand} {t e : TypeId} {i : TypeInfo} {z : Value} {by_ sz n k : Nat} {b : Option Addr} {v2 : Value} {xs ys : List Value} {s s2 : List Chunk}
    (ht : P.underlying t = some (.slice e)) (hi : P.info? e = some i) (hsz : i.size = sz) (hby : i.bytes = by_) (hzi : i.zero = some z) (hz1 : z.cells.size = sz)
    (hx : ∀ a, ev a env x = .slice b n n) (hsub : SubVS sz (.slice b n n) n xs s) (hy : ∀ a, ev a env y = v2) (hsub2 : SubVS sz v2 k ys s2) (hone : One s H R) (htwo : One s2 H R2) (hk : 0 < k)
    (h63 : n + k ≤ maxLen) (hb : (n + k) * by_ ≤ 140737488355328) :
    OpW P u ⟨d, .call ⟨.builtin .append, #[x, y], #[t, t]⟩, ty, pos, af, g⟩ env H (fun v' H1 => ∃ s', RowS sz e v' (n + k) (xs ++ ys) s' ∧ H1 = s' :: H) (fun _ _ => False) := by
  obtain ⟨hl2, ⟨h0, _⟩ | ⟨g2, o2, cap2, cur2, T2, z2, rfl, rfl, hin2⟩⟩ := hsub2
  · omega
  intro a w hsat K Kp hK _
  have hnw := cells_at (hsat.get _ (htwo.memF (g2, .cells cur2 T2 z2) (by simp))) hin2
  have hl' : ys.length = k * i.size := by rw [hsz]; exact hl2
  have hml : maxLen = 9223372036854775807 := rfl
  have run_of : ∀ {v' : Value} {w' : World}, (Builtin.append_ #[t, t] ty #[.slice b n n, .slice (some ⟨g2, o2, none⟩) k cap2]).run P w = .ok v' w' → (execOp (ev a env) ⟨d, .call ⟨.builtin .append, #[x, y], #[t, t]⟩, ty, pos, af, g⟩).run P w = .ok (.value v') w' := fun h => by
    simp only [x_call, resolve, invoke, builtin, List.map_toArray, List.map_cons, List.map_nil, hx a, hy a, Sem.run_bind, Sem.run_pure, Result.andThen_ok, h]
  have fresh : ∀ (m : Nat) (cells : Array Value) (w1 : World), w1 = { w with drawn := m, heap := w.heap.push (.cells cells e) } → Sat u ([(w.heap.size, .cells cells e (0, 0))] :: H) w1 := fun m cells w1 h => by
    subst h
    exact (hsat.drawn m).alloc _
  have hall : (xs ++ ys).length = (n + k) * sz := by rw [List.length_append, hsub.1, hl2, Nat.add_mul]
  have split : ∀ m p : Nat, p ≤ m → p * sz + (m - p) * sz = m * sz := fun m p h => by rw [← Nat.add_mul]; congr 1; omega
  have grow : ∀ (ad : Addr), b = some ad → (∀ j v, xs[j]? = some v → w.cell? (ad.add j) = some v) → upon2 P K Kp ((execOp (ev a env) ⟨d, .call ⟨.builtin .append, #[x, y], #[t, t]⟩, ty, pos, af, g⟩).run P w) := fun ad hb0 holds => by
    subst hb0
    have hr := run_append_grow (P := P) w t ty e i z ht hi hzi ad n n xs (by rw [hsz]; exact hsub.1) holds ⟨g2, o2, none⟩ k cap2 ys hl' hnw (by omega) (by omega) (growslice_fits (by omega) (by rw [hby]; exact hb))
    rw [run_of hr]
    have hge := grownCap_ge w (n + k) n e
    have hcap : grownCap w (n + k) n e ≤ maxLen := grownCap_le_maxLen w (n + k) n e h63
    refine hK _ _ _ ⟨[(w.heap.size, .cells (xs.toArray ++ ys.toArray ++ Builtin.zeroCells z.cells (grownCap w (n + k) n e - (n + k))) e (0, 0))], ⟨hall, .inr ⟨w.heap.size, grownCap w (n + k) n e, _, (0, 0), rfl, rfl, hge, hcap, ?_, ?_, free_zero _⟩⟩, rfl⟩ (fresh _ _ _ rfl)
    · simp only [Array.size_append, size_zeroCells, hz1, List.size_toArray]
      have h1 := split _ _ hge
      rw [List.length_append] at hall
      rw [hall]
      exact h1
    · simp only [Array.toList_append]
      exact List.take_left' (by simpa using hall)
  obtain ⟨hl, ⟨h0, b9, c9, hb9⟩ | ⟨g1, o1, cap1, cur1, T1, z1, hv, rfl, hin1⟩⟩ := hsub
  · subst h0
    have hx0 : xs = [] := List.eq_nil_of_length_eq_zero (by omega)
    cases b with
    | some ad => exact grow ad rfl (fun j v hj => by rw [hx0] at hj; cases hj)
    | none =>
      subst hx0
      have hr := run_append_nil (P := P) w t ty e i z ht hi hzi ⟨g2, o2, none⟩ k cap2 ys hl' hnw hk (by omega) (by rw [hby]; exact Nat.le_trans (by simpa using hb) (by decide : 140737488355328 ≤ 281474976710656))
      rw [run_of hr]
      have hge := grownCap_ge w k 0 e
      have hcap : grownCap w k 0 e ≤ maxLen := grownCap_le_maxLen w k 0 e (by omega)
      refine hK _ _ _ ⟨[(w.heap.size, .cells (ys.toArray ++ Builtin.zeroCells z.cells (grownCap w k 0 e - k)) e (0, 0))], ⟨hall, .inr ⟨w.heap.size, grownCap w k 0 e, _, (0, 0), by simp, rfl, by omega, hcap, ?_, ?_, free_zero _⟩⟩, rfl⟩ (fresh _ _ _ rfl)
      · simp only [Array.size_append, size_zeroCells, hz1, List.size_toArray, hl2]
        exact split _ _ hge
      · simp only [Array.toList_append, List.nil_append, Nat.zero_add]
        exact List.take_left' hl2
  · injection hv with hv1 hv2 hv3
    refine grow ⟨g1, o1, none⟩ hv1 fun j v hj => ?_
    have h9 := cells_at (hsat.get _ (hone.memF (g1, .cells cur1 T1 z1) (by simp))) hin1
    exact h9 j v hj
theorem p_slice_slice3_to {t e : TypeId} {x hi mx : Operand} {b : Option Addr} {n cap h s : Nat} {hk mk : IntKind} (hu : P.underlying t = some (.slice e)) (hs : ∀ w : World, (Go.sizeOf e).run P w = .ok s w) (hx : ∀ a, ev a env x = .slice b n cap) (hh : ∀ a, ev a env hi = .int hk (h : Int)) (hm : ∀ a, ev a env mx = .int mk (h : Int)) (h2 : h ≤ cap) :
    OpP P ⟨d, .slice t x none (some hi) (some mx), ty, pos, af, g⟩ env [] (.slice b h h) := fun a w _ => by
  cases b <;> simp [x_slice, hx a, hh a, hm a, Instr.sliceAt, Instr.slice, run_underlying hu, Instr.sliceBounds, Instr.sliceBound, asIntOf, h2, hs, Addr.add]
theorem rowS_new (sz : Nat) (e : TypeId) (g k : Nat) (xs : List Value) (h : xs.length = k * sz) (hk : k ≤ maxLen) : RowS sz e (.slice (some ⟨g, 0, none⟩) k k) k xs [(g, .cells xs.toArray e (0, 0))] :=
  ⟨h, .inr ⟨g, k, xs.toArray, (0, 0), rfl, rfl, Nat.le_refl _, hk, by simp [h], List.take_of_length_le (by simp [h]), free_zero _⟩⟩
end
end Gw


namespace Go.Proofs.YtjeepldonhgohaaGreatDoor
open Go.Proofs.Tryz
open Go Go.RowKit Gw
set_option linter.unusedVariables false
set_option linter.unusedSimpArgs false
set_option maxRecDepth 100000
attribute [local irreducible] Gw.At Gw.Nx Gw.Ops
/-- A record that lies in memory. -/
structure RecM where
  p : Int
  q : Option Addr
  cap : Nat
  cs : List Chg
def recCells (l : List RecM) : List Value := l.flatMap (fun r => [.int .i64 r.p, .slice r.q r.cs.length r.cap])
def RecsIn (M : List Chunk) (v : Value) (l : List RecM) : Prop := ∃ p cap, v = .slice p l.length cap ∧ (l.length ≤ maxLen ∧ l.length ≤ cap) ∧ ∀ (i : Nat) (r : RecM), l[i]? = some r → ChgsIn M (.slice r.q r.cs.length r.cap) r.cs ∧ ∃ g off cur T zz, p = some ⟨g, off, none⟩ ∧ (g, Obj.cells cur T zz) ∈ M ∧ off + i * 2 + 2 ≤ cur.size ∧ cur.extract (off + i * 2) (off + i * 2 + 2) = #[.int .i64 r.p, .slice r.q r.cs.length r.cap]
/-- The rows after records. -/
def rowsOf (l : List RecM) : List RowM := l.foldl (fun rs r => putAllR rs r.cs) []
theorem rowsOf_snoc (l : List RecM) (r : RecM) : rowsOf (l ++ [r]) = putAllR (rowsOf l) r.cs := by unfold rowsOf; rw [List.foldl_append]; rfl
/-- The records can be applied, one after the other. -/
def LogOk (l : List RecM) : Prop := ∀ (i : Nat) (r : RecM), l[i]? = some r → AppOk (rowsOf (l.take i)) (i : Int) r.p r.cs ∧ r.cs.length ≤ 3
theorem app_sorted {rs : List RowM} {p rp : Int} {cs : List Chg} (hs : SortedR rs) (h : AppOk rs p rp cs) : SortedR (putAllR rs cs) ∧ (putAllR rs cs).length ≤ 2000 := by
  have ha := asc_of h.ok.ord
  obtain ⟨h1, _⟩ := fold_inv hs ha h.fit cs.length (Nat.le_refl _)
  have h2 := len_putAll hs ha h.fit cs.length (Nat.le_refl _)
  rw [List.take_length] at h1 h2
  exact ⟨h1, by have := h.size; omega⟩
theorem LogOk.rows {l : List RecM} (h : LogOk l) : ∀ i, i ≤ l.length → SortedR (rowsOf (l.take i)) ∧ (rowsOf (l.take i)).length ≤ 2000
  | 0, _ => ⟨List.Pairwise.nil, Nat.zero_le _⟩
  | i + 1, hi => by
    obtain ⟨r, hr⟩ : ∃ r, l[i]? = some r := ⟨_, List.getElem?_eq_getElem (by omega)⟩
    have ih := LogOk.rows h i (by omega)
    rw [List.take_add_one, hr]
    show SortedR (rowsOf (l.take i ++ [r])) ∧ _
    rw [show (some r).toList = [r] from rfl, rowsOf_snoc]
    exact app_sorted ih.1 (h i r hr).1
theorem LogOk.all {l : List RecM} (h : LogOk l) : SortedR (rowsOf l) ∧ (rowsOf l).length ≤ 2000 := by
  have := h.rows l.length (Nat.le_refl _)
  rwa [List.take_length] at this
theorem LogOk.snoc {l : List RecM} (h : LogOk l) {r : RecM} (hr : AppOk (rowsOf l) (l.length : Int) r.p r.cs) (h3 : r.cs.length ≤ 3) : LogOk (l ++ [r]) := by
  intro i x hx
  rw [List.getElem?_append] at hx
  split at hx
  · rename_i hi
    rw [List.take_append_of_le_length (by omega)]
    exact h i x hx
  · rename_i hi
    have hlt := (List.getElem?_eq_some_iff.1 hx).1
    simp only [List.length_singleton] at hlt
    have e : i = l.length := by omega
    subst e
    rw [Nat.sub_self] at hx
    injection hx with hx
    subst hx
    rw [List.take_left' rfl]
    exact ⟨hr, h3⟩
theorem chgCells_len : ∀ (cs : List Chg), (chgCells cs).length = cs.length * 10
  | [] => rfl
  | c :: cs => by
    have := chgCells_len cs
    unfold chgCells at *
    rw [List.flatMap_cons, List.length_append, this, List.length_cons]; simp; omega
theorem chgCells_app (a b : List Chg) : chgCells (a ++ b) = chgCells a ++ chgCells b := by unfold chgCells; rw [List.flatMap_append]
theorem chgCells_take (cs : List Chg) (k : Nat) : (chgCells cs).take (k * 10) = chgCells (cs.take k) := by
  rcases Nat.lt_or_ge cs.length k with h | h
  · rw [List.take_of_length_le (by rw [chgCells_len]; omega), List.take_of_length_le (by omega)]
  · have e : chgCells cs = chgCells (cs.take k) ++ chgCells (cs.drop k) := by rw [← chgCells_app, List.take_append_drop]
    rw [e, List.take_left' (by rw [chgCells_len, List.length_take]; omega)]
theorem chgCells_drop (cs : List Chg) (k : Nat) : (chgCells cs).drop (k * 10) = chgCells (cs.drop k) := by
  rcases Nat.lt_or_ge cs.length k with h | h
  · rw [List.drop_of_length_le (by rw [chgCells_len]; omega), List.drop_of_length_le (by omega)]; rfl
  · have e : chgCells cs = chgCells (cs.take k) ++ chgCells (cs.drop k) := by rw [← chgCells_app, List.take_append_drop]
    rw [e, List.drop_left' (by rw [chgCells_len, List.length_take]; omega)]
theorem chgCells_one (cs : List Chg) : ∀ u ∈ chgCells cs, u.oneCell' = true := by
  intro u hu
  unfold chgCells at hu
  obtain ⟨r, _, h⟩ := List.mem_flatMap.1 hu
  simp only [List.mem_cons, List.not_mem_nil, or_false] at h
  rcases h with rfl | rfl | rfl | rfl | rfl | rfl | rfl | rfl | rfl | rfl <;> rfl
theorem chg_at {cur : Array Value} {cs : List Chg} {j : Nat} {y : Chg} (h : CellsIn cur 0 (chgCells cs)) (hy : cs[j]? = some y) : cur[j * 10]? = some (.int .i64 y.t) ∧ cur[j * 10 + 1]? = some (.int .i64 y.k) := by
  have h1 := flat_at (fun c : Chg => [.int .i64 c.t, .int .i64 c.k, .bool c.had, .int .i64 c.o.a, .int .i64 c.o.b, .int .i64 c.o.c, .bool c.has, .int .i64 c.n.a, .int .i64 c.n.b, .int .i64 c.n.c]) 10 (fun _=>rfl) cs j y hy
  have e : ∀ q, ((chgCells cs).drop (j * 10)).take 10 = [.int .i64 y.t, .int .i64 y.k, .bool y.had, .int .i64 y.o.a, .int .i64 y.o.b, .int .i64 y.o.c, .bool y.has, .int .i64 y.n.a, .int .i64 y.n.b, .int .i64 y.n.c] → q < 10 → (chgCells cs)[j * 10 + q]? = ([.int .i64 y.t, .int .i64 y.k, .bool y.had, .int .i64 y.o.a, .int .i64 y.o.b, .int .i64 y.o.c, .bool y.has, .int .i64 y.n.a, .int .i64 y.n.b, .int .i64 y.n.c] : List Value)[q]? := fun q h9 hq => by
    rw [← h9, List.getElem?_take, if_pos hq, List.getElem?_drop]
  have a0 := h.get (j * 10 + 0) _ ((e 0 h1 (by omega)).trans rfl)
  have a1 := h.get (j * 10 + 1) _ ((e 1 h1 (by omega)).trans rfl)
  rw [Nat.zero_add] at a0 a1
  exact ⟨a0, a1⟩
theorem chgsIn_more {M : List Chunk} {v : Value} {cs : List Chg} (h : ChgsIn M v cs) (s : List Chunk) : ChgsIn (M ++ s) v cs := by
  obtain ⟨p, cap, hv, hl, hg⟩ := h
  refine ⟨p, cap, hv, hl, fun i c hc => ?_⟩
  obtain ⟨g, off, cur, T, zz, h1, h2, h3⟩ := hg i c hc
  exact ⟨g, off, cur, T, zz, h1, List.mem_append_left _ h2, h3⟩
theorem chgsIn_right {M : List Chunk} {v : Value} {cs : List Chg} (h : ChgsIn M v cs) (s : List Chunk) : ChgsIn (s ++ M) v cs := by
  obtain ⟨p, cap, hv, hl, hg⟩ := h
  refine ⟨p, cap, hv, hl, fun i c hc => ?_⟩
  obtain ⟨g, off, cur, T, zz, h1, h2, h3⟩ := hg i c hc
  exact ⟨g, off, cur, T, zz, h1, List.mem_append_right _ h2, h3⟩
/-- In the memory M the value v is a row of six integers each. -/
def SixIn (M : List Chunk) (v : Value) (xs : List (List Int)) : Prop := ∃ p cap, v = .slice p xs.length cap ∧ (xs.length ≤ maxLen ∧ xs.length ≤ cap) ∧ ∀ (i : Nat) (z : List Int), xs[i]? = some z → z.length = 6 ∧ (∀ n ∈ z, -9223372036854775808 ≤ n ∧ n ≤ 9223372036854775807) ∧ ∃ g off cur T zz, p = some ⟨g, off, none⟩ ∧ (g, Obj.cells cur T zz) ∈ M ∧ ∀ (j : Nat) (n : Int), z[j]? = some n → cur[off + i * 6 + j]? = some (.int .i64 n)
theorem recsIn_of {v : Value} {l : List RecM} {s MM : List Chunk} (h : RowS 2 68 v l.length (recCells l) s) (hn : l.length ≤ maxLen) (hM : ∀ r ∈ l, ChgsIn MM (.slice r.q r.cs.length r.cap) r.cs) : RecsIn (s ++ MM) v l := by
  obtain ⟨b, cap, rfl⟩ := h.form
  refine ⟨b, cap, rfl, ⟨hn, rowS_le h⟩, fun i r hr => ⟨chgsIn_right (hM r (List.mem_of_getElem? hr)) s, ?_⟩⟩
  obtain ⟨g, cap', cur, z, hv, rfl, hsz, hex⟩ := rowS_ext h i (List.getElem?_eq_some_iff.1 hr).1
  injection hv with hv1 hv2 hv3
  refine ⟨g, 0, cur, 68, z, hv1, List.mem_append_left _ (List.mem_singleton.2 rfl), by omega, ?_⟩
  rw [Nat.zero_add]
  apply Array.toList_inj.1
  rw [hex]
  exact flat_at _ 2 (fun _=>rfl) l i r hr
theorem recCells_app (a b : List RecM) : recCells (a ++ b) = recCells a ++ recCells b := by unfold recCells; rw [List.flatMap_append]

theorem r4_new : Does Tryz.prog 77 #[] [] (fun r H' => ∃ sp, r = .pointer (some ⟨sp, 0, none⟩) ∧ H' = [[(sp, .cells #[.slice none 0 0, .int .i64 0] 121 (0, 0))]]) := by
 refine spec_enter func77 rfl ntmps77 rfl ?_
 intro u R
 refine Zb [] ?_
 refine Zq <| Zg <| Za Y <| Z0 <| Zx <| Zq <| Zg <| Zv (p_build (vs := []) (cs := #[_, _]) Y (run_build_struct (pl := #[(0, 1), (1, 1)]) zeroValue121 underlying121 (fun _ => by kernel_rfl) rfl)) ?_
 refine Ze (w_box Y (cs := #[_, _]) rfl) ?_
 rintro _ _ ⟨sp, rfl, rfl⟩
 refine Za Y <| Z0 <| Zx <| at_ret ?_
 refine nx_end1 rfl results77 Y (by exact ⟨sp, rfl, rfl⟩)

end Go.Proofs.YtjeepldonhgohaaGreatDoor


namespace Gw
open Go Go.RowKit
open Go.ChangeMaps (setBlock)
section
variable {α : Type} {κ : α → Value} {D : α → Prop} {P : Program}
/-- A map's entries, as pairs. -/
structure MapM (κ : α → Value) (es : Array MapEntry) (clock : Nat) (l : List (α × Value)) : Prop where
  pairs : es.toList.map (fun e => (e.key, e.val)) = l.map (fun p => (κ p.1, p.2))
  born : (es.toList.map (·.born)).Nodup
  old : ∀ e ∈ es.toList, e.born < clock
  keys : (l.map (·.1)).Nodup
structure KeyOk (P : Program) (kt : TypeId) (κ : α → Value) (D : α → Prop) : Prop where
  law : WideMaps.KeyLaw P kt
  key : ∀ a, D a → ∃ l, keyOf P kt (κ a) = some l
  inj : ∀ a b, κ a = κ b → a = b
theorem mapM_new (κ : α → Value) : MapM κ #[] 0 [] := ⟨rfl, by simp, by simp, by simp⟩
variable {es : Array MapEntry} {clock : Nat} {l : List (α × Value)} {kt : TypeId}
theorem MapM.size (h : MapM κ es clock l) : es.size = l.length := by
  have := congrArg List.length h.pairs
  simpa using this
theorem MapM.at_ (h : MapM κ es clock l) {j : Nat} {e : MapEntry} (he : es.toList[j]? = some e) : ∃ p, l[j]? = some p ∧ e.key = κ p.1 ∧ e.val = p.2 := by
  have h1 : (es.toList.map (fun e => (e.key, e.val)))[j]? = some (e.key, e.val) := by rw [List.getElem?_map, he]; rfl
  rw [h.pairs, List.getElem?_map] at h1
  cases hp : l[j]? with
  | none => rw [hp] at h1; cases h1
  | some p =>
    rw [hp] at h1
    injection h1 with h1
    injection h1 with h2 h3
    exact ⟨p, rfl, h2.symm, h3.symm⟩
theorem MapM.of (h : MapM κ es clock l) {j : Nat} {p : α × Value} (hp : l[j]? = some p) : ∃ e, es.toList[j]? = some e ∧ e.key = κ p.1 ∧ e.val = p.2 := by
  have h1 : (l.map (fun p => (κ p.1, p.2)))[j]? = some (κ p.1, p.2) := by rw [List.getElem?_map, hp]; rfl
  rw [← h.pairs, List.getElem?_map] at h1
  cases he : es.toList[j]? with
  | none => rw [he] at h1; cases h1
  | some e =>
    rw [he] at h1
    injection h1 with h1
    injection h1 with h2 h3
    exact ⟨e, rfl, h2, h3⟩
theorem find_cases (hK : KeyOk P kt κ D) (hm : MapM κ es clock l) (hl : ∀ p ∈ l, D p.1) (w : World) (k : α) (hk : D k) :
    ((Instr.findKey kt (κ k) es.toList).run P w = .ok none w ∧ ∀ p ∈ l, p.1 ≠ k) ∨ ∃ j v, (Instr.findKey kt (κ k) es.toList).run P w = .ok (some (j, v)) w ∧ l[j]? = some (k, v) := by
  obtain ⟨lx, hx⟩ := hK.key k hk
  rcases hK.law.find w hx es.toList (fun e he => by
    obtain ⟨j, hj⟩ := List.getElem?_of_mem he
    obtain ⟨p, hp, h1, _⟩ := hm.at_ hj
    rw [h1]; exact hK.key _ (hl p (List.mem_of_getElem? hp))) with ⟨h1, h2⟩ | ⟨j, e, h1, h2, h3⟩
  · refine .inl ⟨h1, fun p hp he => ?_⟩
    obtain ⟨j, hj⟩ := List.getElem?_of_mem hp
    obtain ⟨e, h4, h5, _⟩ := hm.of hj
    exact h2 e (List.mem_of_getElem? h4) (by rw [h5, he])
  · obtain ⟨p, hp, h4, h5⟩ := hm.at_ h2
    refine .inr ⟨j, e.val, h1, ?_⟩
    rw [hp, h5, ← hK.inj p.1 k (by rw [← h4, h3])]
/-- What a map holds at a key. -/
def mget [DecidableEq α] (k : α) (l : List (α × Value)) : Option Value := (l.find? (fun p => decide (p.1 = k))).map (·.2)
theorem mget_none [DecidableEq α] {k : α} (h : ∀ p ∈ l, p.1 ≠ k) : mget k l = none := by
  unfold mget
  rw [List.find?_eq_none.2 (fun p hp => by simpa using h p hp)]; rfl
theorem mget_mem [DecidableEq α] {k : α} {v : Value} : ∀ {l : List (α × Value)}, (l.map (·.1)).Nodup → (k, v) ∈ l → mget k l = some v
  | p :: l, hn, h => by
    rw [List.map_cons, List.nodup_cons] at hn
    unfold mget
    rcases List.mem_cons.1 h with rfl | h
    · simp
    · rw [List.find?_cons_of_neg (by simp; rintro rfl; exact hn.1 (List.mem_map.2 ⟨_, h, rfl⟩))]
      exact mget_mem hn.2 h
section
variable {env : Env} {d : Option Nat} {ty : TypeId} {pos : String} {af : Array Edge} {g : Option (Nat × Bool)} {t et : TypeId} {r : Nat} {m x y : Operand} {k : α} {v z : Value}
theorem run_check (hK : KeyOk P kt κ D) (hk : D k) (w : World) (em : Bool) : (Instr.checkKey em 10000 kt (κ k)).run P w = .ok () w := by
  obtain ⟨lx, hx⟩ := hK.key k hk
  exact hK.law.check w em hx
theorem p_lookup [DecidableEq α] (hK : KeyOk P kt κ D) (ht : P.underlying t = some (.map kt et)) (hz : ∀ w : World, (zeroValue et).run P w = .ok z w) (hm : MapM κ es clock l) (hl : ∀ p ∈ l, D p.1) (hk : D k) (hx : ∀ a, ev a env m = .map (some r)) (hy : ∀ a, ev a env x = κ k) :
    OpP P ⟨d, .lookup t m x true, ty, pos, af, g⟩ env [(r, .map es clock)] (.tuple #[(mget k l).getD z, .bool (mget k l).isSome]) := fun a w hs => by
  have hb := hs (r, .map es clock) (by simp)
  show ((do pure (Next.value (← Instr.lookup t (ev a env m) (ev a env x) true))) : Sem Next).run P w = _
  rw [hx a, hy a]
  rcases find_cases hK hm hl w k hk with ⟨h1, h2⟩ | ⟨j, v, h1, h2⟩
  · rw [mget_none h2]
    simp only [Instr.lookup, Sem.run_bind, run_underlying ht, Result.andThen, MapKept.run_getObj_map hb, run_check hK hk, Sem.run_pure, h1, hz]
    rfl
  · rw [mget_mem hm.keys (List.mem_of_getElem? h2)]
    simp only [Instr.lookup, Sem.run_bind, run_underlying ht, Result.andThen, MapKept.run_getObj_map hb, run_check hK hk, Sem.run_pure, h1]
    rfl
theorem p_lookupV [DecidableEq α] {v0 : Value} {b0 : Bool} (hK : KeyOk P kt κ D) (ht : P.underlying t = some (.map kt et)) (hz : ∀ w : World, (zeroValue et).run P w = .ok z w) (hm : MapM κ es clock l) (hl : ∀ p ∈ l, D p.1) (hk : D k) (hv : (mget k l).getD z = v0 ∧ (mget k l).isSome = b0) (hx : ∀ a, ev a env m = .map (some r)) (hy : ∀ a, ev a env x = κ k) :
    OpP P ⟨d, .lookup t m x true, ty, pos, af, g⟩ env [(r, .map es clock)] (.tuple #[v0, .bool b0]) := by
  have := p_lookup (d := d) (ty := ty) (pos := pos) (af := af) (g := g) hK ht hz hm hl hk hx hy
  rwa [hv.1, hv.2] at this
theorem p_len_map (ht : P.underlying t = some (.map kt et)) (hm : MapM κ es clock l) (hx : ∀ a, ev a env m = .map (some r)) :
    OpP P ⟨d, .call ⟨.builtin .len, #[m], #[t]⟩, ty, pos, af, g⟩ env [(r, .map es clock)] (.int .i64 (l.length : Int)) := fun a w hs => by
  have hb := hs (r, .map es clock) (by simp)
  simp [x_call, resolve, invoke, builtin, hx a, Builtin.len_, run_underlying ht, MapKept.run_getObj_map hb, goInt, hm.size]
theorem run_setMapC {w : World} {c : Nat} (hr : w.heap[r]? = some (.map es c)) (o' : Obj) : (setObj r o').run P w = .ok () (setBlock w r o') := by
  simp [setObj, Sem.run, hr, setBlock]
variable {u : World} {H R : Hp}
theorem w_makeMap : OpW P u ⟨d, .makeMap t none, ty, pos, af, g⟩ env H (fun v' H1 => ∃ b, v' = .map (some b) ∧ H1 = [(b, .map #[] 0)] :: H) (fun _ _ => False) := fun a w hs K Kp hK _ => by
  have : (execOp (ev a env) ⟨d, .makeMap t none, ty, pos, af, g⟩).run P w = .ok (.value (.map (some w.heap.size))) { w with heap := w.heap.push (.map #[] 0) } := by
    show ((do pure (Next.value (← Instr.makeMap t none))) : Sem Next).run P w = _
    rfl
  rw [this]
  exact hK _ _ _ ⟨_, rfl, rfl⟩ (hs.alloc _)
theorem sat_map {w : World} (hone : One [(r, .map es clock)] H R) (hsat : Sat u H w) (o' : Obj) : w.heap[r]? = some (.map es clock) ∧ Sat u ([(r, o')] :: R) (setBlock w r o') := by
  have h1 : Sat u ([(r, .map es clock)] :: R) w := hsat.perm (by simpa using hone.perm)
  have hb := h1.get (r, .map es clock) (by simp)
  have hlt : r < w.heap.size := (Array.getElem?_eq_some_iff.1 hb).1
  exact ⟨hb, h1.upd (Upd.here _) rfl rfl rfl (by simp [setBlock, hlt]) (fun j hj => by simp only [setBlock, Array.getElem?_setIfInBounds]; rw [if_neg (fun e => hj e.symm)])⟩
theorem keys_set {i : Nat} {q : Value} (hp : l[i]? = some (k, q)) (v : Value) : ((l.set i (k, v)).map (·.1)) = l.map (·.1) := by
  apply List.ext_getElem?
  intro j
  rw [List.getElem?_map, List.getElem?_map, List.getElem?_set]
  by_cases hij : i = j
  · subst hij
    have hlt := (List.getElem?_eq_some_iff.1 hp).1
    rw [if_pos rfl, if_pos hlt, hp]; rfl
  · rw [if_neg hij]
theorem at_keys {i j : Nat} {p q : α × Value} (hn : (l.map (·.1)).Nodup) (hp : l[i]? = some p) (hq : l[j]? = some q) (h : p.1 = q.1) : i = j := by
  have h1 : (l.map (·.1))[i]? = some p.1 := by rw [List.getElem?_map, hp]; rfl
  have h2 : (l.map (·.1))[j]? = some q.1 := by rw [List.getElem?_map, hq]; rfl
  exact (List.getElem?_inj (List.getElem?_eq_some_iff.1 h1).1 hn).1 (by rw [h1, h2, h])
theorem mem_set {i : Nat} {q : Value} (hn : (l.map (·.1)).Nodup) (hp : l[i]? = some (k, q)) (v : Value) (p : α × Value) : p ∈ l.set i (k, v) ↔ p = (k, v) ∨ (p ∈ l ∧ p.1 ≠ k) := by
  have hlt := (List.getElem?_eq_some_iff.1 hp).1
  constructor
  · intro h
    obtain ⟨j, hj⟩ := List.getElem?_of_mem h
    rw [List.getElem?_set] at hj
    by_cases hij : i = j
    · rw [if_pos hij, if_pos (by omega)] at hj
      injection hj with hj; exact .inl hj.symm
    · rw [if_neg hij] at hj
      exact .inr ⟨List.mem_of_getElem? hj, fun e => hij (at_keys hn hp hj e.symm)⟩
  · rintro (rfl | ⟨h, hne⟩)
    · exact List.mem_of_getElem? (by rw [List.getElem?_set, if_pos rfl, if_pos hlt])
    · obtain ⟨j, hj⟩ := List.getElem?_of_mem h
      refine List.mem_of_getElem? (i := j) ?_
      rw [List.getElem?_set, if_neg]
      · exact hj
      · rintro rfl
        rw [hp] at hj
        injection hj with hj
        exact hne (by rw [← hj])
theorem w_mapUpdate (hK : KeyOk P kt κ D) (ht : P.underlying t = some (.map kt et)) (hm : MapM κ es clock l) (hl : ∀ p ∈ l, D p.1) (hk : D k) (hx : ∀ a, ev a env m = .map (some r)) (hy : ∀ a, ev a env x = κ k) (hv : ∀ a, ev a env y = v) (hone : One [(r, .map es clock)] H R) :
    OpW P u ⟨d, .mapUpdate t m x y, ty, pos, af, g⟩ env H (fun v' H1 => v' = undef ∧ ∃ es' clock' l', MapM κ es' clock' l' ∧ (∀ p, p ∈ l' ↔ p = (k, v) ∨ (p ∈ l ∧ p.1 ≠ k)) ∧ H1 = [(r, .map es' clock')] :: R) (fun _ _ => False) := fun a w hsat K Kp hK2 _ => by
  obtain ⟨hb, _⟩ := sat_map hone hsat (.map es clock)
  suffices hrun : ∃ es' clock' l', (Instr.mapUpdate t (.map (some r)) (κ k) v).run P w = .ok () (setBlock w r (.map es' clock')) ∧ MapM κ es' clock' l' ∧ ∀ p, p ∈ l' ↔ p = (k, v) ∨ (p ∈ l ∧ p.1 ≠ k) by
    obtain ⟨es', clock', l', h1, h2, h3⟩ := hrun
    have : (execOp (ev a env) ⟨d, .mapUpdate t m x y, ty, pos, af, g⟩).run P w = .ok .skip (setBlock w r (.map es' clock')) := by
      show ((do Instr.mapUpdate t (ev a env m) (ev a env x) (ev a env y); pure Next.skip) : Sem Next).run P w = _
      rw [hx a, hy a, hv a, Sem.run_bind, h1]; rfl
    rw [this]
    exact hK2 _ _ _ ⟨rfl, es', clock', l', h2, h3, rfl⟩ (sat_map hone hsat _).2
  rcases find_cases hK hm hl w k hk with ⟨h1, h2⟩ | ⟨j, q, h1, h2⟩
  · refine ⟨es.push { key := κ k, val := v, born := clock }, clock + 1, l ++ [(k, v)], ?_, ⟨?_, ?_, ?_, ?_⟩, ?_⟩
    · simp only [Instr.mapUpdate, Sem.run_bind, run_underlying ht, Result.andThen, MapKept.run_getObj_map hb, run_check hK hk, h1, run_setMapC hb]
    · simp [hm.pairs]
    · simp only [Array.toList_push, List.map_append, List.map_cons, List.map_nil]
      rw [List.nodup_append]
      refine ⟨hm.born, by simp, ?_⟩
      intro a ha b hb' hab
      simp only [List.mem_map, List.mem_singleton] at ha hb'
      obtain ⟨e, he, rfl⟩ := ha
      have := hm.old e he
      omega
    · intro e he
      simp only [Array.toList_push, List.mem_append, List.mem_singleton] at he
      rcases he with he | rfl
      · have := hm.old e he; omega
      · simp
    · rw [List.map_append, List.nodup_append]
      refine ⟨hm.keys, by simp, ?_⟩
      intro a ha b hb' hab
      simp only [List.map_cons, List.map_nil, List.mem_singleton] at hb'
      obtain ⟨p, hp, rfl⟩ := List.mem_map.1 ha
      exact h2 p hp (by rw [hab, hb'])
    · intro p
      rw [List.mem_append, List.mem_singleton]
      constructor
      · rintro (h | rfl)
        · exact .inr ⟨h, h2 p h⟩
        · exact .inl rfl
      · rintro (rfl | ⟨h, _⟩)
        · exact .inr rfl
        · exact .inl h
  · obtain ⟨e0, he0, hek, hev⟩ := hm.of h2
    have he1 : es[j]? = some e0 := by simpa using he0
    obtain ⟨lx, hlx⟩ := hK.key k hk
    have hst : (Instr.keyThatStays (((es[j]?).map (·.key)).getD (κ k)) (κ k)).run P w = .ok (κ k) w := by
      rw [he1]
      show (Instr.keyThatStays e0.key (κ k)).run P w = _
      rw [hek]; exact hK.law.stays w hlx
    refine ⟨es.modify j fun e => { e with key := κ k, val := v }, clock, l.set j (k, v), ?_, ⟨?_, ?_, ?_, ?_⟩, mem_set hm.keys h2 v⟩
    · simp only [Instr.mapUpdate, Sem.run_bind, run_underlying ht, Result.andThen, MapKept.run_getObj_map hb, run_check hK hk, h1, hst, run_setMapC hb]
    · rw [Array.toList_modify]
      apply List.ext_getElem?
      intro i
      have hj : (es.toList.map (fun e => (e.key, e.val)))[i]? = (l.map (fun p => (κ p.1, p.2)))[i]? := by rw [hm.pairs]
      rw [List.getElem?_map, List.getElem?_map] at hj
      rw [List.getElem?_map, List.getElem?_map, List.getElem?_modify, List.getElem?_set]
      by_cases hij : j = i
      · subst hij
        rw [if_pos rfl, if_pos (List.getElem?_eq_some_iff.1 h2).1, he0]; simp
      · simpa [hij] using hj
    · have : (es.modify j fun e => { e with key := κ k, val := v }).toList.map (·.born) = es.toList.map (·.born) := by
        rw [Array.toList_modify]
        apply List.ext_getElem?
        intro i
        simp only [List.getElem?_map, List.getElem?_modify]
        by_cases hij : j = i
        · subst hij; cases es.toList[j]? <;> simp
        · simp [hij]
      rw [this]; exact hm.born
    · intro e he
      rw [Array.toList_modify] at he
      obtain ⟨i, hi⟩ := List.getElem?_of_mem he
      simp only [List.getElem?_modify] at hi
      cases h9 : es.toList[i]? with
      | none => simp [h9] at hi
      | some e1 =>
        have := hm.old e1 (List.mem_of_getElem? h9)
        by_cases hij : j = i
        · subst hij
          simp only [h9, if_true, Option.map_eq_map, Option.map_some, Option.some.injEq] at hi
          subst hi; exact this
        · simp [h9, hij] at hi
          subst hi; exact this
    · rw [keys_set h2 v]; exact hm.keys
theorem w_delete {t2 : TypeId} (hK : KeyOk P kt κ D) (ht : P.underlying t = some (.map kt et)) (hm : MapM κ es clock l) (hl : ∀ p ∈ l, D p.1) (hk : D k) (hx : ∀ a, ev a env m = .map (some r)) (hy : ∀ a, ev a env x = κ k) (hone : One [(r, .map es clock)] H R) :
    OpW P u ⟨d, .call ⟨.builtin .delete, #[m, x], #[t, t2]⟩, ty, pos, af, g⟩ env H (fun v' H1 => v' = .tuple #[] ∧ ∃ es' clock' l', MapM κ es' clock' l' ∧ (∀ p, p ∈ l' ↔ p ∈ l ∧ p.1 ≠ k) ∧ H1 = [(r, .map es' clock')] :: R) (fun _ _ => False) := fun a w hsat K Kp hK2 _ => by
  obtain ⟨hb, _⟩ := sat_map hone hsat (.map es clock)
  suffices hrun : ∃ es' clock' l', (Builtin.delete_ #[t, t2] ty #[.map (some r), κ k]).run P w = .ok (.tuple #[]) (setBlock w r (.map es' clock')) ∧ MapM κ es' clock' l' ∧ ∀ p, p ∈ l' ↔ p ∈ l ∧ p.1 ≠ k by
    obtain ⟨es', clock', l', h1, h2, h3⟩ := hrun
    have : (execOp (ev a env) ⟨d, .call ⟨.builtin .delete, #[m, x], #[t, t2]⟩, ty, pos, af, g⟩).run P w = .ok (.value (.tuple #[])) (setBlock w r (.map es' clock')) := by
      simp only [x_call, resolve, invoke, builtin, List.map_toArray, List.map_cons, List.map_nil, hx a, hy a, Sem.run_bind, Sem.run_pure, Result.andThen_ok, h1]
    rw [this]
    exact hK2 _ _ _ ⟨rfl, es', clock', l', h2, h3, rfl⟩ (sat_map hone hsat _).2
  rcases find_cases hK hm hl w k hk with ⟨h1, h2⟩ | ⟨j, q, h1, h2⟩
  · refine ⟨es, clock, l, ?_, hm, fun p => ⟨fun h => ⟨h, h2 p h⟩, fun h => h.1⟩⟩
    simp only [Builtin.delete_, List.getElem?_toArray, List.getElem?_cons_zero, List.getElem?_cons_succ, Sem.run_bind, run_underlying ht, Result.andThen, MapKept.run_getObj_map hb, run_check hK hk, h1, run_setMapC hb, Sem.run_pure]
  · have her : (es.eraseIdxIfInBounds j).toList = es.toList.eraseIdx j := by
      unfold Array.eraseIdxIfInBounds
      split
      · simp
      · rename_i h; rw [List.eraseIdx_of_length_le (by simpa using h)]
    have hsub : (es.toList.eraseIdx j).Sublist es.toList := List.eraseIdx_sublist _ _
    have hmp : ∀ {α β : Type} (f : α → β) (m : List α) (n : Nat), (m.eraseIdx n).map f = (m.map f).eraseIdx n := by
      intro α β f m
      induction m with
      | nil => intro n; simp
      | cons x m ih => intro n; cases n <;> simp [ih]
    refine ⟨es.eraseIdxIfInBounds j, clock, l.eraseIdx j, ?_, ⟨?_, ?_, ?_, ?_⟩, fun p => ?_⟩
    · simp only [Builtin.delete_, List.getElem?_toArray, List.getElem?_cons_zero, List.getElem?_cons_succ, Sem.run_bind, run_underlying ht, Result.andThen, MapKept.run_getObj_map hb, run_check hK hk, h1, run_setMapC hb, Sem.run_pure]
    · rw [her, hmp, hm.pairs, hmp]
    · rw [her]; exact (hsub.map _).nodup hm.born
    · intro e he
      rw [her] at he
      exact hm.old e (hsub.subset he)
    · exact ((List.eraseIdx_sublist l j).map _).nodup hm.keys
    · rw [List.mem_eraseIdx_iff_getElem?]
      constructor
      · rintro ⟨i, hij, hi⟩
        exact ⟨List.mem_of_getElem? hi, fun e => hij (at_keys hm.keys hi h2 e)⟩
      · rintro ⟨h, hne⟩
        obtain ⟨i, hi⟩ := List.getElem?_of_mem h
        refine ⟨i, ?_, hi⟩
        rintro rfl
        rw [h2] at hi
        injection hi with hi
        exact hne (by rw [← hi])
end
end
end Gw
