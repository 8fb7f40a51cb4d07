/- Roots of lists, in plain words. -/
import Derived.Test.YtcbjoojdfelgaaaGreatDoorEz
import Derived.Test.YtcbjoojdfelgaaaGreatDoorKs13
import Derived.Test.YtcbjoojdfelgaaaGreatDoorDg5

namespace Go.Proofs.YtcbjoojdfelgaaaGreatDoor
open Go.Proofs.Tryz
open Go Go.RowKit Gw
set_option linter.unusedVariables false
set_option linter.unusedSimpArgs false
set_option maxRecDepth 100000
attribute [local irreducible] Gw.At Gw.Nx Gw.Ops
abbrev Bs := List UInt8
def leafS (s : Bs) : Bs := sha (0 :: s)
def nodeS (a b : Bs) : Bs := sha (1 :: (a ++ b))
/-- The greatest power of two that is less than n (n at least 2). -/
def leftN (n : Nat) : Nat := 2 ^ Nat.log2 (n - 1)
theorem left_pos (n : Nat) : 0 < leftN n := Nat.two_pow_pos _
theorem left_lt {n : Nat} (h : 2 ≤ n) : leftN n < n := by
  have := Nat.log2_self_le (n := n - 1) (by omega)
  unfold leftN; omega
theorem left_of {n e : Nat} (h1 : 2 ^ e < n) (h2 : n ≤ 2 ^ (e + 1)) : leftN n = 2 ^ e := by
  unfold leftN
  congr 1
  refine (Nat.log2_eq_iff (by have := Nat.two_pow_pos e; omega)).2 ⟨by omega, by omega⟩
theorem left_ge {n : Nat} (h : 2 ≤ n) : n ≤ 2 * leftN n := by
  have := Nat.lt_log2_self (n := n - 1)
  unfold leftN
  rw [Nat.pow_succ] at this
  omega
/-- The root of a list. -/
def rootT (l : List Bs) : Bs :=
  if h : 2 ≤ l.length then nodeS (rootT (l.take (leftN l.length))) (rootT (l.drop (leftN l.length)))
  else match l with
    | [] => sha []
    | x :: _ => leafS x
termination_by l.length
decreasing_by
  · have := left_lt h; rw [List.length_take]; omega
  · have := left_pos l.length; rw [List.length_drop]; omega
theorem root_nil : rootT [] = sha [] := by rw [rootT]; rfl
theorem root_one (x : Bs) : rootT [x] = leafS x := by rw [rootT]; rfl
theorem root_more {l : List Bs} (h : 2 ≤ l.length) : rootT l = nodeS (rootT (l.take (leftN l.length))) (rootT (l.drop (leftN l.length))) := by
  rw [rootT, dif_pos h]
theorem root_join {a b : List Bs} {e : Nat} (ha : a.length = 2 ^ e) (h0 : 0 < b.length) (hb : b.length ≤ 2 ^ e) : rootT (a ++ b) = nodeS (rootT a) (rootT b) := by
  have hp := Nat.two_pow_pos e
  have hl : leftN (a ++ b).length = a.length := by
    rw [ha]
    exact left_of (by rw [List.length_append]; omega) (by rw [List.length_append, Nat.pow_succ]; omega)
  rw [root_more (by rw [List.length_append]; omega), hl, List.take_left', List.drop_left']
  · rfl
  · rfl
/-- Complete parts, the largest one first. -/
structure BinP (ps : List (List Bs)) : Prop where
  pow : ∀ p ∈ ps, ∃ e, p.length = 2 ^ e
  lt : ps.Pairwise (fun a b => b.length < a.length)
theorem binP_nil : BinP [] := ⟨by simp, .nil⟩
theorem pow_lt {a b : Nat} (h : 2 ^ a < 2 ^ b) : 2 * 2 ^ a ≤ 2 ^ b := by
  have := (Nat.pow_lt_pow_iff_right (a := 2) (by omega)).1 h
  calc 2 * 2 ^ a = 2 ^ (a + 1) := by rw [Nat.pow_succ]; omega
    _ ≤ 2 ^ b := Nat.pow_le_pow_right (by omega) this
theorem BinP.tail {p : List Bs} {ps : List (List Bs)} (h : BinP (p :: ps)) : BinP ps := ⟨fun q hq => h.pow q (by simp [hq]), (List.pairwise_cons.1 h.lt).2⟩
theorem BinP.init {p : List Bs} {ps : List (List Bs)} (h : BinP (ps ++ [p])) : BinP ps := ⟨fun q hq => h.pow q (by simp [hq]), (List.pairwise_append.1 h.lt).1⟩
theorem BinP.sum : ∀ {ps : List (List Bs)} {e : Nat}, BinP ps → (∀ p ∈ ps, p.length < 2 ^ e) → ps.flatten.length < 2 ^ e
  | [], e, _, _ => by simpa using Nat.two_pow_pos e
  | p :: ps, e, h, hl => by
    obtain ⟨e1, h1⟩ := h.pow p (by simp)
    have h2 := hl p (by simp)
    rw [h1] at h2
    have h3 := pow_lt h2
    have h4 := BinP.sum (e := e1) h.tail (fun q hq => by rw [← h1]; exact (List.pairwise_cons.1 h.lt).1 q hq)
    rw [List.flatten_cons, List.length_append, h1]
    omega
theorem BinP.nonempty {ps : List (List Bs)} (h : BinP ps) (hn : ps ≠ []) : 0 < ps.flatten.length := by
  cases ps with
  | nil => exact absurd rfl hn
  | cons p ps =>
    obtain ⟨e, he⟩ := h.pow p (by simp)
    have := Nat.two_pow_pos e
    rw [List.flatten_cons, List.length_append]
    omega
theorem BinP.root : ∀ {ps : List (List Bs)} {q : List Bs}, BinP (ps ++ [q]) → ps.foldr (fun p o => nodeS (rootT p) o) (rootT q) = rootT (ps.flatten ++ q)
  | [], q, _ => by simp
  | p :: ps, q, h => by
    rw [List.foldr_cons, BinP.root (ps := ps) (q := q) h.tail, List.flatten_cons, List.append_assoc]
    obtain ⟨e, he⟩ := h.pow p (by simp)
    have hf : (ps ++ [q]).flatten = ps.flatten ++ q := by simp
    have ht : BinP (ps ++ [q]) := h.tail
    have h1 : 0 < (ps ++ [q]).flatten.length := BinP.nonempty ht (by simp)
    have h2 := BinP.sum (e := e) ht (fun r hr => by rw [← he]; exact (List.pairwise_cons.1 h.lt).1 r hr)
    rw [hf] at h1 h2
    exact (root_join he h1 (by omega)).symm
/-- Ahead of the merging of equal parts. -/
structure MergeI (ls : List Bs) (ps : List (List Bs)) (q : List Bs) (i : Nat) : Prop where
  bin : BinP ps
  pow : ∃ e, q.length = 2 ^ e
  le : ∀ p ∈ ps, q.length ≤ p.length
  flat : ps.flatten ++ q = ls.take i
theorem merge_new {ls : List Bs} {ps : List (List Bs)} {i : Nat} {s : Bs} (h : BinP ps) (hf : ps.flatten = ls.take i) (hs : ls[i]? = some s) : MergeI ls ps [s] (i + 1) :=
  ⟨h, ⟨0, rfl⟩, fun p hp => by
    obtain ⟨e, he⟩ := h.pow p hp
    have := Nat.two_pow_pos e
    rw [he]; simp; omega, by rw [List.take_add_one, hs, hf]; rfl⟩
theorem MergeI.step {ls : List Bs} {ps : List (List Bs)} {p q : List Bs} {i : Nat} (h : MergeI ls (ps ++ [p]) q i) (e : p.length = q.length) : MergeI ls ps (p ++ q) i ∧ rootT (p ++ q) = nodeS (rootT p) (rootT q) := by
  obtain ⟨e1, he⟩ := h.pow
  have hp := Nat.two_pow_pos e1
  refine ⟨⟨h.bin.init, ⟨e1 + 1, by rw [List.length_append, e, he, Nat.pow_succ]; omega⟩, ?_, ?_⟩, root_join (e.trans he) (by omega) (by omega)⟩
  · intro r hr
    obtain ⟨e2, h2⟩ := h.bin.pow r (by simp [hr])
    have h3 := (List.pairwise_append.1 h.bin.lt).2.2 r hr p (by simp)
    rw [e, he, h2] at h3
    have h4 := pow_lt h3
    rw [List.length_append, e, he, h2]
    omega
  · rw [← h.flat]; simp
theorem MergeI.done {ls : List Bs} {ps : List (List Bs)} {q : List Bs} {i : Nat} (h : MergeI ls ps q i) (hne : ∀ ps' p, ps = ps' ++ [p] → p.length ≠ q.length) : BinP (ps ++ [q]) ∧ (ps ++ [q]).flatten = ls.take i := by
  refine ⟨⟨?_, ?_⟩, by rw [← h.flat]; simp⟩
  · intro r hr
    rcases List.mem_append.1 hr with hr | hr
    · exact h.bin.pow r hr
    · rw [List.mem_singleton] at hr
      subst hr; exact h.pow
  · rw [List.pairwise_append]
    refine ⟨h.bin.lt, List.pairwise_singleton _ _, ?_⟩
    intro a ha b hb
    rw [List.mem_singleton] at hb
    subst hb
    rcases List.eq_nil_or_concat ps with rfl | ⟨ps', p, rfl⟩
    · simp at ha
    · have h1 := hne ps' p (by simp)
      have h2 := h.le p (by simp)
      have h3 := h.bin.lt
      simp only [List.concat_eq_append] at ha h3
      rw [List.pairwise_append] at h3
      rcases List.mem_append.1 ha with ha | ha
      · have := h3.2.2 a ha p (by simp)
        omega
      · rw [List.mem_singleton] at ha
        subst ha; omega
theorem take_at {cur : Array Value} {xs : List Value} (h : cur.toList.take xs.length = xs) {i : Nat} {x : Value} (hx : xs[i]? = some x) : cur[i]? = some x := by
  have hlt := (List.getElem?_eq_some_iff.1 hx).1
  rw [← h, List.getElem?_take, if_pos hlt, Array.getElem?_toList] at hx
  exact hx
theorem fold_rev (ps : List (List Bs)) (o : Bs) : (ps.map rootT).reverse.foldl (fun o r => nodeS r o) o = ps.foldr (fun p o => nodeS (rootT p) o) o := by
  rw [List.foldl_reverse, List.foldr_map]

/-- A list of strings that lies in memory. -/
def StrsU (M : List Chunk) (v : Value) (ls : List Bs) : Prop := ∃ p cap, v = .slice p ls.length cap ∧ (ls.length ≤ maxLen ∧ ls.length ≤ cap) ∧ ∀ (i : Nat) (s : Bs), ls[i]? = some s → ∃ g off cur T zz, p = some ⟨g, off, none⟩ ∧ (g, Obj.cells cur T zz) ∈ M ∧ cur[off + i]? = some (strV s)
def rtV (p : List Bs) : Value := strV (rootT p)
def lnV (p : List Bs) : Value := .int .i64 ((p.length : Nat) : Int)
theorem rowS_take {sz : Nat} {e : TypeId} {b : Option Addr} {n c : Nat} {xs : List Value} {s : List Chunk} (h : RowS sz e (.slice b n c) n xs s) (k : Nat) (hk : k ≤ n) : RowS sz e (.slice b k c) k (xs.take (k * sz)) s := by
  obtain ⟨hl, h⟩ := h
  refine ⟨by rw [List.length_take, hl, Nat.min_eq_left (Nat.mul_le_mul_right _ hk)], ?_⟩
  rcases h with ⟨h1, rfl, rfl⟩ | ⟨g, cap', cur, z, h1, rfl, h2, h3, h4, h5, h6⟩
  · injection h1 with e1 e2 e3
    subst e1 e3
    obtain rfl : k = 0 := by omega
    exact .inl ⟨rfl, rfl, rfl⟩
  · injection h1 with e1 e2 e3
    subst e1 e3
    refine .inr ⟨g, c, cur, z, rfl, rfl, by omega, h3, h4, ?_, h6⟩
    rw [← h5, List.take_take, Nat.min_eq_left (Nat.mul_le_mul_right _ hk)]
theorem rowS_get {e : TypeId} {v : Value} {n : Nat} {xs : List Value} {s : List Chunk} (h : RowS 1 e v n xs s) (h0 : 0 < n) : ∃ g cap cur z, v = .slice (some ⟨g, 0, none⟩) n cap ∧ s = [(g, .cells cur e z)] ∧ n ≤ cap ∧ ∀ (i : Nat) (x : Value), xs[i]? = some x → cur[i]? = some x := by
  obtain ⟨hl, ⟨_, h1, _⟩ | ⟨g, cap', cur, z, h1, rfl, h2, h3, h4, h5, h6⟩⟩ := h
  · omega
  · rw [← hl] at h5
    exact ⟨g, cap', cur, z, h1, rfl, h2, fun i x hx => take_at h5 hx⟩
theorem StrsU.mono {M M' : List Chunk} {v : Value} {ls : List Bs} (h : StrsU M v ls) (hm : ∀ c ∈ M, c ∈ M') : StrsU M' v ls := by
  obtain ⟨p, cap, e, hl, hg⟩ := h
  refine ⟨p, cap, e, hl, fun i s hs => ?_⟩
  obtain ⟨g, off, cur, T, zz, e1, h1, h2⟩ := hg i s hs
  exact ⟨g, off, cur, T, zz, e1, hm _ h1, h2⟩
theorem strsU_row {e : TypeId} {v : Value} {ls : List Bs} {s : List Chunk} (h : RowS 1 e v ls.length (ls.map strV) s) (hn : ls.length ≤ maxLen) : StrsU s v ls := by
  rcases Nat.eq_zero_or_pos ls.length with h0 | h0
  · obtain ⟨b, cap, rfl⟩ := h.form
    exact ⟨b, cap, rfl, ⟨hn, by omega⟩, fun i s hs => by rw [List.eq_nil_of_length_eq_zero h0] at hs; simp at hs⟩
  · obtain ⟨g, cap, cur, z, rfl, rfl, hle, hg⟩ := rowS_get h h0
    refine ⟨_, cap, rfl, ⟨hn, hle⟩, fun i s hs => ⟨g, 0, cur, e, z, rfl, by simp, ?_⟩⟩
    rw [Nat.zero_add]
    exact hg i _ (by rw [List.getElem?_map, hs]; rfl)
theorem root_len (l : List Bs) : (rootT l).length = 32 := by
  rw [rootT]
  split
  · exact sha_len _
  · split <;> exact sha_len _

theorem leaf_spec (s : Bs) (hs : s.length ≤ 1099511627000) (Tg : TypeId) (zg : Nat × Nat) : DoesR Tryz.prog 70 #[.string (str s)] [[(0, .cells (kTab.map u32v).toArray Tg zg)]] (.string (str (leafS s))) := by
 refine spec_enter func70 rfl ntmps70 rfl ?_
 intro u R
 refine Zb [0] ?_
 refine Zq <| Zg <| Za Y <| Z0 <| Zx <| Zq <| Zg <| Zc [_] Y call105 Y rfl (marked_spec (str [0])) ?_
 rintro _ _ ⟨_, ⟨bm, rfl, rfl⟩, rfl⟩
 refine Zm Y <| Ze (w_buildSlice (vs := [_]) (cs := [_]) underlying34 sizeOf9 zeroValue9 Y rfl rfl rfl rfl rfl) ?_
 rintro _ _ ⟨bk, rfl, rfl⟩
 refine Zr [_] Y call124 Y rfl (marked_in_spec bk 0 1 bm #[strV s] _ _ _ _ [s] [0] rfl (by simp) (by simp) (by simp; omega) _ _) ?_
 rintro _ _ ⟨rfl, rfl⟩
 refine Za Y <| Z0 <| Zx <| at_ret ?_
 refine nx_end1 rfl results70 Y (by exact ⟨by simp [leafS], rfl⟩)

theorem node_spec (a b : Bs) (ha : a.length ≤ 1000000000) (hb : b.length ≤ 1000000000) (Tg : TypeId) (zg : Nat × Nat) : DoesR Tryz.prog 71 #[.string (str a), .string (str b)] [[(0, .cells (kTab.map u32v).toArray Tg zg)]] (.string (str (nodeS a b))) := by
 refine spec_enter func71 rfl ntmps71 rfl ?_
 intro u R
 refine Zb [0, 1] ?_
 refine Zq <| Zg <| Za Y <| Z0 <| Zx <| Zq <| Zg <| Zc [_] Y call105 Y rfl (marked_spec (str [1])) ?_
 rintro _ _ ⟨_, ⟨bm, rfl, rfl⟩, rfl⟩
 refine Zm Y <| Zm Y <| Ze (w_buildSlice (vs := [_, _]) (cs := [_, _]) underlying34 sizeOf9 zeroValue9 Y rfl rfl rfl rfl rfl) ?_
 rintro _ _ ⟨bk, rfl, rfl⟩
 refine Zr [_] Y call124 Y rfl (marked_in_spec bk 0 2 bm #[strV a, strV b] _ _ _ _ [a, b] [1] rfl (by simp) (by simp) (by simp; omega) _ _) ?_
 rintro _ _ ⟨rfl, rfl⟩
 refine Za Y <| Z0 <| Zx <| at_ret ?_
 refine nx_end1 rfl results71 Y (by exact ⟨by simp [nodeS], rfl⟩)

end Go.Proofs.YtcbjoojdfelgaaaGreatDoor
