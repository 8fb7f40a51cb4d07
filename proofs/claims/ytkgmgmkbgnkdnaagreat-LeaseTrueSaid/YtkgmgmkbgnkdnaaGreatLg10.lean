/- Records in plain words: a log that can be applied. -/
import Derived.Test.YtkgmgmkbgnkdnaaGreatEz
import Derived.Test.YtkgmgmkbgnkdnaaGreatLg9
import Derived.Test.YtkgmgmkbgnkdnaaGreatEx17

namespace Go.Proofs.YtkgmgmkbgnkdnaaGreat
open Go.Proofs.Tryz
open Go Go.RowKit Gw
set_option linter.unusedVariables false
set_option linter.unusedSimpArgs false
set_option maxRecDepth 100000
attribute [local irreducible] Gw.At Gw.Nx Gw.Ops
structure RecM where
  p : Int
  q : Option Addr
  cap : Nat
  cs : List Chg
def recCells (l : List RecM) : List Value := l.flatMap (fun r => [.int .i64 r.p, .slice r.q r.cs.length r.cap])
def RecsIn (M : List Chunk) (v : Value) (l : List RecM) : Prop := ∃ p cap, v = .slice p l.length cap ∧ (l.length ≤ maxLen ∧ l.length ≤ cap) ∧ ∀ (i : Nat) (r : RecM), l[i]? = some r → ChgsIn M (.slice r.q r.cs.length r.cap) r.cs ∧ ∃ g off cur T zz, p = some ⟨g, off, none⟩ ∧ (g, Obj.cells cur T zz) ∈ M ∧ off + i * 2 + 2 ≤ cur.size ∧ cur.extract (off + i * 2) (off + i * 2 + 2) = #[.int .i64 r.p, .slice r.q r.cs.length r.cap]
def rowsOf (l : List RecM) : List RowM := l.foldl (fun rs r => putAllR rs r.cs) []
theorem rowsOf_snoc (l : List RecM) (r : RecM) : rowsOf (l ++ [r]) = putAllR (rowsOf l) r.cs := by unfold rowsOf; rw [List.foldl_append]; rfl
def LogOk (l : List RecM) : Prop := ∀ (i : Nat) (r : RecM), l[i]? = some r → AppOk (rowsOf (l.take i)) (i : Int) r.p r.cs ∧ r.cs.length ≤ 3
theorem app_sorted {rs : List RowM} {p rp : Int} {cs : List Chg} (hs : SortedR rs) (h : AppOk rs p rp cs) : SortedR (putAllR rs cs) ∧ (putAllR rs cs).length ≤ 2000 := by
  have ha := asc_of h.ok.ord
  obtain ⟨h1, _⟩ := fold_inv hs ha h.fit cs.length (Nat.le_refl _)
  have h2 := len_putAll hs ha h.fit cs.length (Nat.le_refl _)
  rw [List.take_length] at h1 h2
  exact ⟨h1, by have := h.size; omega⟩
theorem LogOk.rows {l : List RecM} (h : LogOk l) : ∀ i, i ≤ l.length → SortedR (rowsOf (l.take i)) ∧ (rowsOf (l.take i)).length ≤ 2000
  | 0, _ => ⟨List.Pairwise.nil, Nat.zero_le _⟩
  | i + 1, hi => by
    obtain ⟨r, hr⟩ : ∃ r, l[i]? = some r := ⟨_, List.getElem?_eq_getElem (by omega)⟩
    have ih := LogOk.rows h i (by omega)
    rw [List.take_add_one, hr]
    show SortedR (rowsOf (l.take i ++ [r])) ∧ _
    rw [show (some r).toList = [r] from rfl, rowsOf_snoc]
    exact app_sorted ih.1 (h i r hr).1
theorem LogOk.all {l : List RecM} (h : LogOk l) : SortedR (rowsOf l) ∧ (rowsOf l).length ≤ 2000 := by
  have := h.rows l.length (Nat.le_refl _)
  rwa [List.take_length] at this
theorem LogOk.snoc {l : List RecM} (h : LogOk l) {r : RecM} (hr : AppOk (rowsOf l) (l.length : Int) r.p r.cs) (h3 : r.cs.length ≤ 3) : LogOk (l ++ [r]) := by
  intro i x hx
  rw [List.getElem?_append] at hx
  split at hx
  · rename_i hi
    rw [List.take_append_of_le_length (by omega)]
    exact h i x hx
  · rename_i hi
    have hlt := (List.getElem?_eq_some_iff.1 hx).1
    simp only [List.length_singleton] at hlt
    have e : i = l.length := by omega
    subst e
    rw [Nat.sub_self] at hx
    injection hx with hx
    subst hx
    rw [List.take_left' rfl]
    exact ⟨hr, h3⟩
theorem chgCells_len : ∀ (cs : List Chg), (chgCells cs).length = cs.length * 10
  | [] => rfl
  | c :: cs => by
    have := chgCells_len cs
    unfold chgCells at *
    rw [List.flatMap_cons, List.length_append, this, List.length_cons]; simp; omega
theorem chgCells_app (a b : List Chg) : chgCells (a ++ b) = chgCells a ++ chgCells b := by unfold chgCells; rw [List.flatMap_append]
theorem chgCells_take (cs : List Chg) (k : Nat) : (chgCells cs).take (k * 10) = chgCells (cs.take k) := by
  rcases Nat.lt_or_ge cs.length k with h | h
  · rw [List.take_of_length_le (by rw [chgCells_len]; omega), List.take_of_length_le (by omega)]
  · have e : chgCells cs = chgCells (cs.take k) ++ chgCells (cs.drop k) := by rw [← chgCells_app, List.take_append_drop]
    rw [e, List.take_left' (by rw [chgCells_len, List.length_take]; omega)]
theorem chgCells_drop (cs : List Chg) (k : Nat) : (chgCells cs).drop (k * 10) = chgCells (cs.drop k) := by
  rcases Nat.lt_or_ge cs.length k with h | h
  · rw [List.drop_of_length_le (by rw [chgCells_len]; omega), List.drop_of_length_le (by omega)]; rfl
  · have e : chgCells cs = chgCells (cs.take k) ++ chgCells (cs.drop k) := by rw [← chgCells_app, List.take_append_drop]
    rw [e, List.drop_left' (by rw [chgCells_len, List.length_take]; omega)]
theorem chgCells_one (cs : List Chg) : ∀ u ∈ chgCells cs, u.oneCell' = true := by
  intro u hu
  unfold chgCells at hu
  obtain ⟨r, _, h⟩ := List.mem_flatMap.1 hu
  simp only [List.mem_cons, List.not_mem_nil, or_false] at h
  rcases h with rfl | rfl | rfl | rfl | rfl | rfl | rfl | rfl | rfl | rfl <;> rfl
theorem chg_at {cur : Array Value} {cs : List Chg} {j : Nat} {y : Chg} (h : CellsIn cur 0 (chgCells cs)) (hy : cs[j]? = some y) : cur[j * 10]? = some (.int .i64 y.t) ∧ cur[j * 10 + 1]? = some (.int .i64 y.k) := by
  have h1 := flat_at (fun c : Chg => [.int .i64 c.t, .int .i64 c.k, .bool c.had, .int .i64 c.o.a, .int .i64 c.o.b, .int .i64 c.o.c, .bool c.has, .int .i64 c.n.a, .int .i64 c.n.b, .int .i64 c.n.c]) 10 (fun _=>rfl) cs j y hy
  have e : ∀ q, ((chgCells cs).drop (j * 10)).take 10 = [.int .i64 y.t, .int .i64 y.k, .bool y.had, .int .i64 y.o.a, .int .i64 y.o.b, .int .i64 y.o.c, .bool y.has, .int .i64 y.n.a, .int .i64 y.n.b, .int .i64 y.n.c] → q < 10 → (chgCells cs)[j * 10 + q]? = ([.int .i64 y.t, .int .i64 y.k, .bool y.had, .int .i64 y.o.a, .int .i64 y.o.b, .int .i64 y.o.c, .bool y.has, .int .i64 y.n.a, .int .i64 y.n.b, .int .i64 y.n.c] : List Value)[q]? := fun q h9 hq => by
    rw [← h9, List.getElem?_take, if_pos hq, List.getElem?_drop]
  have a0 := h.get (j * 10 + 0) _ ((e 0 h1 (by omega)).trans rfl)
  have a1 := h.get (j * 10 + 1) _ ((e 1 h1 (by omega)).trans rfl)
  rw [Nat.zero_add] at a0 a1
  exact ⟨a0, a1⟩
theorem chgsIn_more {M : List Chunk} {v : Value} {cs : List Chg} (h : ChgsIn M v cs) (s : List Chunk) : ChgsIn (M ++ s) v cs := by
  obtain ⟨p, cap, hv, hl, hg⟩ := h
  refine ⟨p, cap, hv, hl, fun i c hc => ?_⟩
  obtain ⟨g, off, cur, T, zz, h1, h2, h3⟩ := hg i c hc
  exact ⟨g, off, cur, T, zz, h1, List.mem_append_left _ h2, h3⟩
theorem chgsIn_right {M : List Chunk} {v : Value} {cs : List Chg} (h : ChgsIn M v cs) (s : List Chunk) : ChgsIn (s ++ M) v cs := by
  obtain ⟨p, cap, hv, hl, hg⟩ := h
  refine ⟨p, cap, hv, hl, fun i c hc => ?_⟩
  obtain ⟨g, off, cur, T, zz, h1, h2, h3⟩ := hg i c hc
  exact ⟨g, off, cur, T, zz, h1, List.mem_append_right _ h2, h3⟩
def SixIn (M : List Chunk) (v : Value) (xs : List (List Int)) : Prop := ∃ p cap, v = .slice p xs.length cap ∧ (xs.length ≤ maxLen ∧ xs.length ≤ cap) ∧ ∀ (i : Nat) (z : List Int), xs[i]? = some z → z.length = 6 ∧ (∀ n ∈ z, -9223372036854775808 ≤ n ∧ n ≤ 9223372036854775807) ∧ ∃ g off cur T zz, p = some ⟨g, off, none⟩ ∧ (g, Obj.cells cur T zz) ∈ M ∧ ∀ (j : Nat) (n : Int), z[j]? = some n → cur[off + i * 6 + j]? = some (.int .i64 n)
theorem recsIn_of {v : Value} {l : List RecM} {s MM : List Chunk} (h : RowS 2 36 v l.length (recCells l) s) (hn : l.length ≤ maxLen) (hM : ∀ r ∈ l, ChgsIn MM (.slice r.q r.cs.length r.cap) r.cs) : RecsIn (s ++ MM) v l := by
  obtain ⟨b, cap, rfl⟩ := h.form
  refine ⟨b, cap, rfl, ⟨hn, rowS_le h⟩, fun i r hr => ⟨chgsIn_right (hM r (List.mem_of_getElem? hr)) s, ?_⟩⟩
  obtain ⟨g, cap', cur, z, hv, rfl, hsz, hex⟩ := rowS_ext h i (List.getElem?_eq_some_iff.1 hr).1
  injection hv with hv1 hv2 hv3
  refine ⟨g, 0, cur, 36, z, hv1, List.mem_append_left _ (List.mem_singleton.2 rfl), by omega, ?_⟩
  rw [Nat.zero_add]
  apply Array.toList_inj.1
  rw [hex]
  exact flat_at _ 2 (fun _=>rfl) l i r hr
theorem recCells_app (a b : List RecM) : recCells (a ++ b) = recCells a ++ recCells b := by unfold recCells; rw [List.flatMap_append]

theorem r4_new : Does Tryz.prog 18 #[] [] (fun r H' => ∃ sp, r = .pointer (some ⟨sp, 0, none⟩) ∧ H' = [[(sp, .cells #[.slice none 0 0, .int .i64 0] 66 (0, 0))]]) := by
 refine spec_enter func18 rfl ntmps18 rfl ?_
 intro u R
 refine Zb [] ?_
 refine Zq <| Zg <| Za Y <| Z0 <| Zx <| Zq <| Zg <| Zv (p_build (vs := []) (cs := #[_, _]) Y (run_build_struct (pl := #[(0, 1), (1, 1)]) zeroValue66 underlying66 (fun _ => by kernel_rfl) rfl)) ?_
 refine Ze (w_box Y (cs := #[_, _]) rfl) ?_
 rintro _ _ ⟨sp, rfl, rfl⟩
 refine Za Y <| Z0 <| Zx <| at_ret ?_
 refine nx_end1 rfl results18 Y (by exact ⟨sp, rfl, rfl⟩)

end Go.Proofs.YtkgmgmkbgnkdnaaGreat
