/- Rows in memory. -/
/- Roots of lists, in plain words. -/
/- slices.Backward; digest.Root. -/
import Derived.Test.YtkgmgmkbgnkdnaaGreatDoorEz
import Derived.Test.YtkgmgmkbgnkdnaaGreatDoorKs13
import Derived.Test.YtkgmgmkbgnkdnaaGreatDoorEx17
import Derived.Test.YtkgmgmkbgnkdnaaGreatDoorEx22
import Derived.Test.YtkgmgmkbgnkdnaaGreatDoorEx25
import Derived.Test.YtkgmgmkbgnkdnaaGreatDoorWi2
import Derived.Test.YtkgmgmkbgnkdnaaGreatDoorEx6

namespace Go.Proofs.YtkgmgmkbgnkdnaaGreatDoor
open Go.Proofs.Tryz
open Go Go.RowKit Gw
set_option linter.unusedVariables false
set_option linter.unusedSimpArgs false
set_option maxRecDepth 100000
attribute [local irreducible] Gw.At Gw.Nx Gw.Ops
def RowsU (M : List Chunk) (v : Value) (rs : List RowM) : Prop := ∃ p cap, v = .slice p rs.length cap ∧ (rs.length ≤ maxLen ∧ rs.length ≤ cap) ∧ ∀ (i : Nat) (x : RowM), rs[i]? = some x → ∃ g off cur T zz, p = some ⟨g, off, none⟩ ∧ (g, Obj.cells cur T zz) ∈ M ∧ off + i * 5 + 5 ≤ cur.size ∧ cur.extract (off + i * 5) (off + i * 5 + 5) = #[.int .i64 x.t, .int .i64 x.k, .int .i64 x.v.a, .int .i64 x.v.b, .int .i64 x.v.c]
theorem rowsU_row {e : TypeId} {v : Value} {rs : List RowM} {s : List Chunk} (h : RowS 5 e v rs.length (rowCells rs) s) (hn : rs.length ≤ maxLen) : RowsU s v rs := by
  obtain ⟨b, cap, rfl⟩ := h.form
  refine ⟨b, cap, rfl, ⟨hn, rowS_le h⟩, fun i x hx => ?_⟩
  obtain ⟨g, cap', cur, z, hv, rfl, hsz, hex⟩ := rowS_ext h i (List.getElem?_eq_some_iff.1 hx).1
  injection hv with hv1 hv2 hv3
  refine ⟨g, 0, cur, e, z, hv1, by simp, by omega, ?_⟩
  unfold rowCells at hex
  rw [flat_at _ 5 (fun _=>rfl) rs i x hx] at hex
  rw [Nat.zero_add]
  exact Array.toList_inj.1 hex
theorem RowsU.mono {M M' : List Chunk} {v : Value} {ls : List RowM} (h : RowsU M v ls) (hm : ∀ c ∈ M, c ∈ M') : RowsU M' v ls := by
  obtain ⟨p, cap, e, hl, hg⟩ := h
  refine ⟨p, cap, e, hl, fun i s hs => ?_⟩
  obtain ⟨g, off, cur, T, zz, e1, h1, h2⟩ := hg i s hs
  exact ⟨g, off, cur, T, zz, e1, hm _ h1, h2⟩
theorem rw_valueI (r : RowM) (c : Int) (hc : 0 ≤ c ∧ c ≤ 3) : DoesR Tryz.prog 56 #[.agg #[.int .i64 r.t, .int .i64 r.k, .int .i64 r.v.a, .int .i64 r.v.b, .int .i64 r.v.c], .int .i64 c] [] (.int .i64 (valL r c)) := fun u R w hs =>
  (value_calls r c hc w).mono (by
    rintro e w' ⟨rfl, q, o, rfl⟩
    exact .inl ⟨_, [], rfl, ⟨rfl, rfl⟩, sat_grow hs q _⟩)
theorem ext_cell {cur xs : Array Value} {a n : Nat} (h : cur.extract a (a + n) = xs) (hs : a + n ≤ cur.size) (j : Nat) (hj : j < n) : cur[a + j]? = xs[j]? := by
  rw [← h, Array.getElem?_extract, if_pos (by omega)]
theorem dec_bool {p q : Prop} [Decidable p] [Decidable q] (h : p ↔ q) : Value.bool (decide p) = Value.bool (decide q) := by rw [decide_eq_decide.2 h]
theorem doesR_frame {P : Program} {f : FuncId} {args : Array Value} {v : Value} {M : List Chunk} (h : DoesR P f args [] v) : DoesR P f args [M] v := fun u R w hs =>
  Calls.mono (h u ([M] ++ R) w hs) fun e w' he => by
    rcases he with ⟨v', H', rfl, ⟨rfl, rfl⟩, h2⟩ | ⟨ch, H', rfl, h1, h2⟩
    · exact .inl ⟨_, [M], rfl, ⟨rfl, rfl⟩, h2⟩
    · exact h1.elim
theorem doesR_right {P : Program} {f : FuncId} {args : Array Value} {v : Value} {A B : List Chunk} (h : DoesR P f args [B] v) : DoesR P f args [A ++ B] v := fun u R w hs =>
  Calls.mono (h u ([A] ++ R) w (hs.perm (by simp only [List.flatten_append, List.flatten_cons, List.flatten_nil, List.append_nil]; rw [← List.append_assoc]; exact List.perm_append_comm.append_right _))) fun e w' he => by
    rcases he with ⟨v', H', rfl, ⟨rfl, rfl⟩, h2⟩ | ⟨ch, H', rfl, h1, h2⟩
    · refine .inl ⟨_, [A ++ B], rfl, ⟨rfl, rfl⟩, h2.perm ?_⟩
      simp only [List.flatten_append, List.flatten_cons, List.flatten_nil, List.append_nil]
      rw [← List.append_assoc]
      exact List.perm_append_comm.append_right _
    · exact h1.elim
theorem doesR_two {P : Program} {f : FuncId} {args : Array Value} {v : Value} {A B : List Chunk} (h : DoesR P f args [A ++ B] v) : DoesR P f args [A, B] v := by
  refine does_re h (by simp) ?_
  rintro r H' ⟨rfl, rfl⟩
  exact ⟨_, ⟨rfl, rfl⟩, by simp⟩
theorem take_snoc {α : Type} {xs : List α} {j : Nat} {x : α} (h : xs[j]? = some x) : xs.take (j + 1) = xs.take j ++ [x] := by rw [List.take_add_one, h]; rfl
theorem split_row {rs : List RowM} {k : Nat} {r : RowM} (h : rs[k]? = some r) : rowCells rs = rowCells (rs.take k) ++ (rowCells [r] ++ rowCells (rs.drop (k + 1))) := by
  rw [← rowCells_app, ← rowCells_app]
  congr 1
  obtain ⟨hk, rfl⟩ := List.getElem?_eq_some_iff.1 h
  rw [List.singleton_append, ← List.drop_eq_getElem_cons hk, List.take_append_drop]
theorem rowCells_at {rs : List RowM} {k : Nat} {r : RowM} (h : rs[k]? = some r) (j : Nat) (hj : j < 5) : (rowCells rs)[k * 5 + j]? = (rowCells [r])[j]? := by
  have hk := (List.getElem?_eq_some_iff.1 h).1
  have e : (rowCells (rs.take k)).length = k * 5 := by rw [rowCells_len, List.length_take]; omega
  rw [split_row h, List.getElem?_append_right (by omega), List.getElem?_append_left (by rw [e, rowCells_len]; simp; omega), e, Nat.add_sub_cancel_left]
theorem rowsU_cells {M : List Chunk} {p : Option Addr} {n cap : Nat} {rs : List RowM} (h : RowsU M (.slice p n cap) rs) : CellsM M p (rowCells rs) := by
  obtain ⟨p', cap', e, hl, hg⟩ := h
  injection e with e1 e2 e3
  subst e1
  intro j u hj
  have hjl := (List.getElem?_eq_some_iff.1 hj).1
  rw [rowCells_len] at hjl
  obtain ⟨x, hx⟩ : ∃ x, rs[j / 5]? = some x := ⟨_, List.getElem?_eq_getElem (by omega)⟩
  obtain ⟨g, off, cur, T, zz, rfl, hm, hsz, hex⟩ := hg (j / 5) x hx
  refine ⟨g, off, cur, T, zz, rfl, hm, ?_⟩
  have h1 := ext_cell hex hsz (j % 5) (by omega)
  have h2 := rowCells_at hx (j % 5) (by omega)
  rw [show j / 5 * 5 + j % 5 = j by omega, hj] at h2
  rw [show off + j = off + j / 5 * 5 + j % 5 by omega, h1, h2, ← Array.getElem?_toList]
  rfl

theorem rclone_spec {M : List Chunk} {v : Value} {rs : List RowM} (hv : RowsU M v rs) (hb : rs.length ≤ 1000000000000) : Does Tryz.prog 35 #[v] [M] (fun r H' => ∃ sr, RowS 5 67 r rs.length (rowCells rs) sr ∧ H' = [sr, M]) := by
 have hml : maxLen = 9223372036854775807 := rfl
 obtain ⟨p, cap, rfl, ⟨hl, hlc⟩, hg⟩ := id hv
 have hcm : CellsM M p (rowCells rs) := rowsU_cells hv
 refine spec_enter func35 rfl ntmps35 rfl ?_
 intro u R
 refine Zb [0] ?_
 refine Zq <| Zg <| Za Y <| Z0 <| Zx <| Zq <| Zq <| Zg <| Zm Y <| Zv (p_eql_slice_nil underlying38 Y Y) <| Z0 <| Zx ?_
 refine at_if_bool Y (fun hp => ?_) (fun hp => ?_)
 ·
  have hp0 : p = none := by cases p with
    | none => rfl
    | some x => cases hp
  have h0 : rs = [] := by
    cases rs with
    | nil => rfl
    | cons x l => obtain ⟨g, off, cur, T, zz, e9, _⟩ := hg 0 x rfl; rw [hp0] at e9; cases e9
  refine Zq <| at_nil ?_
  refine Zg <| Za Y <| Z0 <| Zx <| at_ret <| Zt ?_
  refine nx_end1 rfl results35 Y (by exact ⟨[], by rw [h0]; exact rowS_nil 5 _, rfl⟩)
 refine at_skip <| Zx <| Zq <| Zg <| Ze (w_buildSlice0 underlying38 sizeOf67) ?_
 rintro _ _ ⟨g1, rfl, rfl⟩
 refine Zm Y ?_
 refine Ze (w_appendM (by_ := 40) (sz := 5) underlying38 (rfl : Tryz.prog.info? 67 = some Tryz.t67) rfl rfl rfl rfl Y (rowS_new 5 67 g1 0 [] rfl (by decide)) Y (hcm) (by exact rowCells_len _) (by decide) Wo Wo (by exact rowCells_one _) (by omega) (by omega)) ?_
 rintro _ _ ⟨sa1, hra1, rfl⟩
 replace hra1 := rowS_eq hra1 (Nat.zero_add _) (List.nil_append _)
 refine Za Y <| Z0 <| Zx <| at_ret ?_
 refine nx_end1 rfl results35 Y (by exact ⟨_, hra1, rfl⟩)

end Go.Proofs.YtkgmgmkbgnkdnaaGreatDoor


namespace Go.Proofs.YtkgmgmkbgnkdnaaGreatDoor
open Go.Proofs.Tryz
open Go Go.RowKit Gw
set_option linter.unusedVariables false
set_option linter.unusedSimpArgs false
set_option maxRecDepth 100000
attribute [local irreducible] Gw.At Gw.Nx Gw.Ops
abbrev Bs := List UInt8
def leafS (s : Bs) : Bs := sha (0 :: s)
def nodeS (a b : Bs) : Bs := sha (1 :: (a ++ b))
def leftN (n : Nat) : Nat := 2 ^ Nat.log2 (n - 1)
theorem left_pos (n : Nat) : 0 < leftN n := Nat.two_pow_pos _
theorem left_lt {n : Nat} (h : 2 ≤ n) : leftN n < n := by
  have := Nat.log2_self_le (n := n - 1) (by omega)
  unfold leftN; omega
theorem left_of {n e : Nat} (h1 : 2 ^ e < n) (h2 : n ≤ 2 ^ (e + 1)) : leftN n = 2 ^ e := by
  unfold leftN
  congr 1
  refine (Nat.log2_eq_iff (by have := Nat.two_pow_pos e; omega)).2 ⟨by omega, by omega⟩
def rootT (l : List Bs) : Bs :=
  if h : 2 ≤ l.length then nodeS (rootT (l.take (leftN l.length))) (rootT (l.drop (leftN l.length)))
  else match l with
    | [] => sha []
    | x :: _ => leafS x
termination_by l.length
decreasing_by
  · have := left_lt h; rw [List.length_take]; omega
  · have := left_pos l.length; rw [List.length_drop]; omega
theorem root_nil : rootT [] = sha [] := by rw [rootT]; rfl
theorem root_one (x : Bs) : rootT [x] = leafS x := by rw [rootT]; rfl
theorem root_more {l : List Bs} (h : 2 ≤ l.length) : rootT l = nodeS (rootT (l.take (leftN l.length))) (rootT (l.drop (leftN l.length))) := by
  rw [rootT, dif_pos h]
theorem root_join {a b : List Bs} {e : Nat} (ha : a.length = 2 ^ e) (h0 : 0 < b.length) (hb : b.length ≤ 2 ^ e) : rootT (a ++ b) = nodeS (rootT a) (rootT b) := by
  have hp := Nat.two_pow_pos e
  have hl : leftN (a ++ b).length = a.length := by
    rw [ha]
    exact left_of (by rw [List.length_append]; omega) (by rw [List.length_append, Nat.pow_succ]; omega)
  rw [root_more (by rw [List.length_append]; omega), hl, List.take_left', List.drop_left']
  · rfl
  · rfl
structure BinP (ps : List (List Bs)) : Prop where
  pow : ∀ p ∈ ps, ∃ e, p.length = 2 ^ e
  lt : ps.Pairwise (fun a b => b.length < a.length)
theorem binP_nil : BinP [] := ⟨by simp, .nil⟩
theorem pow_lt {a b : Nat} (h : 2 ^ a < 2 ^ b) : 2 * 2 ^ a ≤ 2 ^ b := by
  have := (Nat.pow_lt_pow_iff_right (a := 2) (by omega)).1 h
  calc 2 * 2 ^ a = 2 ^ (a + 1) := by rw [Nat.pow_succ]; omega
    _ ≤ 2 ^ b := Nat.pow_le_pow_right (by omega) this
theorem BinP.tail {p : List Bs} {ps : List (List Bs)} (h : BinP (p :: ps)) : BinP ps := ⟨fun q hq => h.pow q (by simp [hq]), (List.pairwise_cons.1 h.lt).2⟩
theorem BinP.init {p : List Bs} {ps : List (List Bs)} (h : BinP (ps ++ [p])) : BinP ps := ⟨fun q hq => h.pow q (by simp [hq]), (List.pairwise_append.1 h.lt).1⟩
theorem BinP.sum : ∀ {ps : List (List Bs)} {e : Nat}, BinP ps → (∀ p ∈ ps, p.length < 2 ^ e) → ps.flatten.length < 2 ^ e
  | [], e, _, _ => by simpa using Nat.two_pow_pos e
  | p :: ps, e, h, hl => by
    obtain ⟨e1, h1⟩ := h.pow p (by simp)
    have h2 := hl p (by simp)
    rw [h1] at h2
    have h3 := pow_lt h2
    have h4 := BinP.sum (e := e1) h.tail (fun q hq => by rw [← h1]; exact (List.pairwise_cons.1 h.lt).1 q hq)
    rw [List.flatten_cons, List.length_append, h1]
    omega
theorem BinP.nonempty {ps : List (List Bs)} (h : BinP ps) (hn : ps ≠ []) : 0 < ps.flatten.length := by
  cases ps with
  | nil => exact absurd rfl hn
  | cons p ps =>
    obtain ⟨e, he⟩ := h.pow p (by simp)
    have := Nat.two_pow_pos e
    rw [List.flatten_cons, List.length_append]
    omega
theorem BinP.root : ∀ {ps : List (List Bs)} {q : List Bs}, BinP (ps ++ [q]) → ps.foldr (fun p o => nodeS (rootT p) o) (rootT q) = rootT (ps.flatten ++ q)
  | [], q, _ => by simp
  | p :: ps, q, h => by
    rw [List.foldr_cons, BinP.root (ps := ps) (q := q) h.tail, List.flatten_cons, List.append_assoc]
    obtain ⟨e, he⟩ := h.pow p (by simp)
    have hf : (ps ++ [q]).flatten = ps.flatten ++ q := by simp
    have ht : BinP (ps ++ [q]) := h.tail
    have h1 : 0 < (ps ++ [q]).flatten.length := BinP.nonempty ht (by simp)
    have h2 := BinP.sum (e := e) ht (fun r hr => by rw [← he]; exact (List.pairwise_cons.1 h.lt).1 r hr)
    rw [hf] at h1 h2
    exact (root_join he h1 (by omega)).symm
structure MergeI (ls : List Bs) (ps : List (List Bs)) (q : List Bs) (i : Nat) : Prop where
  bin : BinP ps
  pow : ∃ e, q.length = 2 ^ e
  le : ∀ p ∈ ps, q.length ≤ p.length
  flat : ps.flatten ++ q = ls.take i
theorem merge_new {ls : List Bs} {ps : List (List Bs)} {i : Nat} {s : Bs} (h : BinP ps) (hf : ps.flatten = ls.take i) (hs : ls[i]? = some s) : MergeI ls ps [s] (i + 1) :=
  ⟨h, ⟨0, rfl⟩, fun p hp => by
    obtain ⟨e, he⟩ := h.pow p hp
    have := Nat.two_pow_pos e
    rw [he]; simp; omega, by rw [List.take_add_one, hs, hf]; rfl⟩
theorem MergeI.step {ls : List Bs} {ps : List (List Bs)} {p q : List Bs} {i : Nat} (h : MergeI ls (ps ++ [p]) q i) (e : p.length = q.length) : MergeI ls ps (p ++ q) i ∧ rootT (p ++ q) = nodeS (rootT p) (rootT q) := by
  obtain ⟨e1, he⟩ := h.pow
  have hp := Nat.two_pow_pos e1
  refine ⟨⟨h.bin.init, ⟨e1 + 1, by rw [List.length_append, e, he, Nat.pow_succ]; omega⟩, ?_, ?_⟩, root_join (e.trans he) (by omega) (by omega)⟩
  · intro r hr
    obtain ⟨e2, h2⟩ := h.bin.pow r (by simp [hr])
    have h3 := (List.pairwise_append.1 h.bin.lt).2.2 r hr p (by simp)
    rw [e, he, h2] at h3
    have h4 := pow_lt h3
    rw [List.length_append, e, he, h2]
    omega
  · rw [← h.flat]; simp
theorem MergeI.done {ls : List Bs} {ps : List (List Bs)} {q : List Bs} {i : Nat} (h : MergeI ls ps q i) (hne : ∀ ps' p, ps = ps' ++ [p] → p.length ≠ q.length) : BinP (ps ++ [q]) ∧ (ps ++ [q]).flatten = ls.take i := by
  refine ⟨⟨?_, ?_⟩, by rw [← h.flat]; simp⟩
  · intro r hr
    rcases List.mem_append.1 hr with hr | hr
    · exact h.bin.pow r hr
    · rw [List.mem_singleton] at hr
      subst hr; exact h.pow
  · rw [List.pairwise_append]
    refine ⟨h.bin.lt, List.pairwise_singleton _ _, ?_⟩
    intro a ha b hb
    rw [List.mem_singleton] at hb
    subst hb
    rcases List.eq_nil_or_concat ps with rfl | ⟨ps', p, rfl⟩
    · simp at ha
    · have h1 := hne ps' p (by simp)
      have h2 := h.le p (by simp)
      have h3 := h.bin.lt
      simp only [List.concat_eq_append] at ha h3
      rw [List.pairwise_append] at h3
      rcases List.mem_append.1 ha with ha | ha
      · have := h3.2.2 a ha p (by simp)
        omega
      · rw [List.mem_singleton] at ha
        subst ha; omega
theorem take_at {cur : Array Value} {xs : List Value} (h : cur.toList.take xs.length = xs) {i : Nat} {x : Value} (hx : xs[i]? = some x) : cur[i]? = some x := by
  have hlt := (List.getElem?_eq_some_iff.1 hx).1
  rw [← h, List.getElem?_take, if_pos hlt, Array.getElem?_toList] at hx
  exact hx
theorem fold_rev (ps : List (List Bs)) (o : Bs) : (ps.map rootT).reverse.foldl (fun o r => nodeS r o) o = ps.foldr (fun p o => nodeS (rootT p) o) o := by
  rw [List.foldl_reverse, List.foldr_map]

def StrsU (M : List Chunk) (v : Value) (ls : List Bs) : Prop := ∃ p cap, v = .slice p ls.length cap ∧ (ls.length ≤ maxLen ∧ ls.length ≤ cap) ∧ ∀ (i : Nat) (s : Bs), ls[i]? = some s → ∃ g off cur T zz, p = some ⟨g, off, none⟩ ∧ (g, Obj.cells cur T zz) ∈ M ∧ cur[off + i]? = some (strV s)
def rtV (p : List Bs) : Value := strV (rootT p)
def lnV (p : List Bs) : Value := .int .i64 ((p.length : Nat) : Int)
theorem rowS_take {sz : Nat} {e : TypeId} {b : Option Addr} {n c : Nat} {xs : List Value} {s : List Chunk} (h : RowS sz e (.slice b n c) n xs s) (k : Nat) (hk : k ≤ n) : RowS sz e (.slice b k c) k (xs.take (k * sz)) s := by
  obtain ⟨hl, h⟩ := h
  refine ⟨by rw [List.length_take, hl, Nat.min_eq_left (Nat.mul_le_mul_right _ hk)], ?_⟩
  rcases h with ⟨h1, rfl, rfl⟩ | ⟨g, cap', cur, z, h1, rfl, h2, h3, h4, h5, h6⟩
  · injection h1 with e1 e2 e3
    subst e1 e3
    obtain rfl : k = 0 := by omega
    exact .inl ⟨rfl, rfl, rfl⟩
  · injection h1 with e1 e2 e3
    subst e1 e3
    refine .inr ⟨g, c, cur, z, rfl, rfl, by omega, h3, h4, ?_, h6⟩
    rw [← h5, List.take_take, Nat.min_eq_left (Nat.mul_le_mul_right _ hk)]
theorem rowS_get {e : TypeId} {v : Value} {n : Nat} {xs : List Value} {s : List Chunk} (h : RowS 1 e v n xs s) (h0 : 0 < n) : ∃ g cap cur z, v = .slice (some ⟨g, 0, none⟩) n cap ∧ s = [(g, .cells cur e z)] ∧ n ≤ cap ∧ ∀ (i : Nat) (x : Value), xs[i]? = some x → cur[i]? = some x := by
  obtain ⟨hl, ⟨_, h1, _⟩ | ⟨g, cap', cur, z, h1, rfl, h2, h3, h4, h5, h6⟩⟩ := h
  · omega
  · rw [← hl] at h5
    exact ⟨g, cap', cur, z, h1, rfl, h2, fun i x hx => take_at h5 hx⟩
theorem StrsU.mono {M M' : List Chunk} {v : Value} {ls : List Bs} (h : StrsU M v ls) (hm : ∀ c ∈ M, c ∈ M') : StrsU M' v ls := by
  obtain ⟨p, cap, e, hl, hg⟩ := h
  refine ⟨p, cap, e, hl, fun i s hs => ?_⟩
  obtain ⟨g, off, cur, T, zz, e1, h1, h2⟩ := hg i s hs
  exact ⟨g, off, cur, T, zz, e1, hm _ h1, h2⟩
theorem strsU_row {e : TypeId} {v : Value} {ls : List Bs} {s : List Chunk} (h : RowS 1 e v ls.length (ls.map strV) s) (hn : ls.length ≤ maxLen) : StrsU s v ls := by
  rcases Nat.eq_zero_or_pos ls.length with h0 | h0
  · obtain ⟨b, cap, rfl⟩ := h.form
    exact ⟨b, cap, rfl, ⟨hn, by omega⟩, fun i s hs => by rw [List.eq_nil_of_length_eq_zero h0] at hs; simp at hs⟩
  · obtain ⟨g, cap, cur, z, rfl, rfl, hle, hg⟩ := rowS_get h h0
    refine ⟨_, cap, rfl, ⟨hn, hle⟩, fun i s hs => ⟨g, 0, cur, e, z, rfl, by simp, ?_⟩⟩
    rw [Nat.zero_add]
    exact hg i _ (by rw [List.getElem?_map, hs]; rfl)
theorem root_len (l : List Bs) : (rootT l).length = 32 := by
  rw [rootT]
  split
  · exact sha_len _
  · split <;> exact sha_len _

theorem leaf_spec (s : Bs) (hs : s.length ≤ 140737488354000) (Tg : TypeId) (zg : Nat × Nat) : DoesR Tryz.prog 136 #[.string (str s)] [[(1, .cells (kTab.map u32v).toArray Tg zg)]] (.string (str (leafS s))) := by
 refine spec_enter func136 rfl ntmps136 rfl ?_
 intro u R
 refine Zb [0] ?_
 refine Zq <| Zg <| Za Y <| Z0 <| Zx <| Zq <| Zg <| Zc [_] Y call162 Y rfl (marked_spec (str [0])) ?_
 rintro _ _ ⟨_, ⟨bm, rfl, rfl⟩, rfl⟩
 refine Zm Y <| Ze (w_buildSlice (vs := [_]) (cs := [_]) underlying61 sizeOf9 zeroValue9 Y rfl rfl rfl rfl rfl) ?_
 rintro _ _ ⟨bk, rfl, rfl⟩
 refine Xr [_] Y call182 Y rfl (marked_in_spec bk 0 1 bm #[strV s] _ _ _ _ [s] [0] rfl (by simp) (by simp) (by simp; omega) _ _) ?_
 refine Za Y <| Z0 <| Zx <| at_ret ?_
 refine nx_end1 rfl results136 Y (by exact ⟨by simp [leafS], rfl⟩)

theorem node_spec (a b : Bs) (ha : a.length ≤ 1000000000) (hb : b.length ≤ 1000000000) (Tg : TypeId) (zg : Nat × Nat) : DoesR Tryz.prog 137 #[.string (str a), .string (str b)] [[(1, .cells (kTab.map u32v).toArray Tg zg)]] (.string (str (nodeS a b))) := by
 refine spec_enter func137 rfl ntmps137 rfl ?_
 intro u R
 refine Zb [0, 1] ?_
 refine Zq <| Zg <| Za Y <| Z0 <| Zx <| Zq <| Zg <| Zc [_] Y call162 Y rfl (marked_spec (str [1])) ?_
 rintro _ _ ⟨_, ⟨bm, rfl, rfl⟩, rfl⟩
 refine Zm Y <| Zm Y <| Ze (w_buildSlice (vs := [_, _]) (cs := [_, _]) underlying61 sizeOf9 zeroValue9 Y rfl rfl rfl rfl rfl) ?_
 rintro _ _ ⟨bk, rfl, rfl⟩
 refine Xr [_] Y call182 Y rfl (marked_in_spec bk 0 2 bm #[strV a, strV b] _ _ _ _ [a, b] [1] rfl (by simp) (by simp) (by simp; omega) _ _) ?_
 refine Za Y <| Z0 <| Zx <| at_ret ?_
 refine nx_end1 rfl results137 Y (by exact ⟨by simp [nodeS], rfl⟩)

end Go.Proofs.YtkgmgmkbgnkdnaaGreatDoor


namespace Go.Proofs.YtkgmgmkbgnkdnaaGreatDoor
open Go.Proofs.Tryz
open Go Go.RowKit Gw
set_option linter.unusedVariables false
set_option linter.unusedSimpArgs false
set_option maxRecDepth 100000
attribute [local irreducible] Gw.At Gw.Nx Gw.Ops
def bwd {α : Type} [Inhabited α] (ls : List α) : List (Nat × α) := (List.range ls.length).reverse.map (fun i => (i, ls.getD i default))
theorem bwd_len {α : Type} [Inhabited α] (ls : List α) : (bwd ls).length = ls.length := by simp [bwd]
theorem bwd_at {α : Type} [Inhabited α] {ls : List α} {m : Nat} {s : α} (h : ls[m]? = some s) : (bwd ls)[ls.length - (m + 1)]? = some (m, s) := by
  have hlt := (List.getElem?_eq_some_iff.1 h).1
  unfold bwd
  rw [List.getElem?_map, List.getElem?_reverse (by simp; omega), List.length_range, List.getElem?_range (by omega)]
  rw [show ls.length - 1 - (ls.length - (m + 1)) = m by omega]
  simp [List.getD, h]
theorem bwd_snd {α : Type} [Inhabited α] (ls : List α) : (bwd ls).map Prod.snd = ls.reverse := by
  apply List.ext_getElem?
  intro i
  by_cases hi : i < ls.length
  · have h1 : ls[ls.length - 1 - i]? = some (ls[ls.length - 1 - i]'(by omega)) := List.getElem?_eq_getElem _
    have h2 := bwd_at h1
    rw [show ls.length - (ls.length - 1 - i + 1) = i by omega] at h2
    rw [List.getElem?_map, h2, List.getElem?_reverse hi, h1]; rfl
  · rw [List.getElem?_eq_none (by rw [List.length_map, bwd_len]; omega), List.getElem?_eq_none (by simp; omega)]
theorem bwd_mem {α : Type} [Inhabited α] {ls : List α} {x : Nat × α} (h : x ∈ bwd ls) : x.2 ∈ ls := by
  have h1 : x.2 ∈ (bwd ls).map Prod.snd := List.mem_map.2 ⟨x, h, rfl⟩
  rw [bwd_snd, List.mem_reverse] at h1
  exact h1
theorem split_at {α : Type} {xs : List α} {j : Nat} {x : α} (h : xs[j]? = some x) : xs = xs.take j ++ x :: xs.drop (j + 1) := by
  have hlt := (List.getElem?_eq_some_iff.1 h).1
  rw [List.getElem?_eq_getElem hlt] at h; injection h with h
  rw [← h, ← List.drop_eq_getElem_cons hlt, List.take_append_drop]
theorem fold_bwd (xs : List Bs) (q : Bs) : (bwd xs).foldl (fun o (x : Nat × Bs) => nodeS x.2 o) q = xs.reverse.foldl (fun o r => nodeS r o) q := by
  rw [← bwd_snd, List.foldl_map]
theorem two_at {α : Type} (f : List α → Value) (ps : List (List α)) (p q : List α) : (((ps ++ [p]) ++ [q]).map f)[(ps ++ [p]).length + 1 - 2]? = some (f p) ∧ (((ps ++ [p]) ++ [q]).map f)[(ps ++ [p]).length + 1 - 1]? = some (f q) := by
  have e : (ps ++ [p]).length = ps.length + 1 := by simp
  constructor
  · rw [show (ps ++ [p]).length + 1 - 2 = ps.length by omega]; simp
  · rw [show (ps ++ [p]).length + 1 - 1 = ps.length + 1 by omega]; simp
theorem two_take {α : Type} (f : List α → Value) (ps : List (List α)) (p q : List α) : (((ps ++ [p]) ++ [q]).map f).take (((ps ++ [p]).length + 1 - 2) * 1) = ps.map f := by
  rw [show ((ps ++ [p]).length + 1 - 2) * 1 = (ps.map f).length by simp]
  simp
theorem last_at {α : Type} (f : List α → Value) (ps : List (List α)) (q : List α) : ((ps ++ [q]).map f)[(ps ++ [q]).length - 1]? = some (f q) := by
  rw [show (ps ++ [q]).length - 1 = ps.length by simp]; simp
theorem last_take {α : Type} (f : List α → Value) (ps : List (List α)) (q : List α) : ((ps ++ [q]).map f).take (((ps ++ [q]).length - 1) * 1) = ps.map f := by
  rw [show ((ps ++ [q]).length - 1) * 1 = (ps.map f).length by simp]
  simp
theorem last_of {α : Type} {ps : List α} (h : 0 < ps.length) : ∃ ps' p, ps = ps' ++ [p] := by
  rcases List.eq_nil_or_concat ps with rfl | ⟨a, b, e⟩
  · simp at h
  · exact ⟨a, b, by rw [e, List.concat_eq_append]⟩
theorem fold_len (xs : List (Nat × Bs)) (q : Bs) (hq : q.length = 32) : (xs.foldl (fun o (x : Nat × Bs) => nodeS x.2 o) q).length = 32 := by
  rcases List.eq_nil_or_concat xs with rfl | ⟨ys, y, rfl⟩
  · exact hq
  · rw [List.concat_eq_append, List.foldl_append]; exact sha_len _

theorem backward_spec (p : Option Addr) (n c : Nat) : Does Tryz.prog 139 #[.slice p n c] [] (fun r H' => ∃ b, r = .func (.func 166) #[] #[.pointer (some ⟨b, 0, none⟩)] ∧ H' = [[(b, .cells #[.slice p n c] 61 (0, 0))]]) := by
 refine spec_enter func139 rfl ntmps139 rfl ?_
 intro u R
 refine Zb [0] ?_
 refine Zq <| Zg <| Ze (w_box Y (cs := #[_]) rfl) ?_
 rintro _ _ ⟨b, rfl, rfl⟩
 refine Za Y <| Z0 <| Zx <| Zq <| Zg <| Zv (p_makeFunc (vs := []) (us := [_]) Y Y) ?_
 refine Za Y <| Z0 <| Zx <| at_ret ?_
 refine nx_end1 rfl results139 Y (by exact ⟨_, rfl, rfl⟩)

theorem backward_iter {M : List Chunk} {v : Value} {ls : List Bs} (hv : StrsU M v ls) (b : Nat) (hn : ls.length ≤ 1000000000000) :
    IterSpecA Tryz.prog 166 #[.pointer (some ⟨b, 0, none⟩)] [[(b, .cells #[v] 61 (0, 0))]] (fun s => ∀ c ∈ M, c ∈ s) (fun x => #[.int .i64 ((x.1 : Nat) : Int), strV x.2]) (bwd ls) := by
 have hml : maxLen = 9223372036854775807 := rfl
 obtain ⟨p, cap, rfl, hl, hg⟩ := hv
 intro l J hA hy s hJ
 refine spec_enter func166 rfl ntmps166 rfl ?_
 intro u R
 refine Zb [0, 1] ?_
 refine Zq <| Zg <| Zl isAgg61 Y ?_
 refine Zv (p_len_slice underlying61 Y) ?_
 (refine op_v (p_sub Y Y (IntWalk.i64_in _ ?_)) ?_; (focus (omega)))
 refine Za Y <| Z0 <| Zx <| at_block <| Zb [3, 0, 1] ?_
 refine at_loopB (e0 := [(3, _)]) (H0 := _) (n := _) (fun m e H => ∃ (k : Nat) (s : List Chunk), m = 0 + k ∧ (k ≤ ls.length ∧ J ((bwd ls).take (ls.length - k)) s) ∧ e = [(3, .int .i64 ((k : Int) - 1))] ∧ H = [[(b, .cells #[.slice p ls.length cap] 61 (0, 0))], s]) (by exact ⟨ls.length, s, rfl, ⟨Nat.le_refl _, by rw [Nat.sub_self, List.take_zero]; exact hJ⟩, rfl, rfl⟩) Wp ?_
 rintro _ _ _ ⟨k, s, rfl, ⟨hk, hJ⟩, rfl, rfl⟩
 refine Zq <| Zq <| Zg <| Zm Y <| Zv (p_geq Y Y) <| Z0 <| Zx ?_
 refine at_if Y (fun hlt => ?_) (fun hlt => ?_)
 ·
  obtain ⟨m, rfl⟩ : ∃ m, k = m + 1 := ⟨k - 1, by omega⟩
  rw [show (((m + 1 : Nat) : Int) - 1) = ((m : Nat) : Int) by omega]
  obtain ⟨z9, hz9⟩ : ∃ z9, ls[m]? = some z9 := ⟨_, List.getElem?_eq_getElem (by omega)⟩
  have hb9 := bwd_at hz9
  obtain ⟨g, o, cur, T, zz, rfl, hm, hex8⟩ := hg m z9 hz9
  have hex9 := hex8
  have hyk := hy _ _ _ s (split_at hb9) hJ
  refine at_skip <| Zx <| Zq <| at_block <| Zq <| Zg <| Zm Y <| Zm Y <| Zl isAgg61 Y ?_
  refine Zm Y ?_
  (refine op_v (p_indexAddr_nat1 underlying61 sizeOf9 Y Y ?_) ?_; (focus (omega)))
  refine op_rm (cs := [(g, .cells cur T zz)]) (by simp [hA _ s hJ _ hm]) (p_load isAgg9 Y (by exact hex9)) rfl rfl ?_
  refine Ze (w_yield (vs := [_, _]) Y Y (hyk) Wp) ?_
  rintro _ _ ⟨_, ⟨s', rfl, rfl, hJ'⟩, rfl⟩
  refine Zv (p_not Y) <| Z0 <| Zx ?_
  refine at_if_bool Y (fun hb => ?_) (fun hb => ?_)
  ·
   cases hb
  refine at_skip <| nx_block_normal <| Zx <| Zg <| Zm Y ?_
  (refine op_v (p_sub Y Y (IntWalk.i64_in _ ?_)) ?_; (focus (omega)))
  refine Za Y <| Z0 <| Zn [3, 0, 1] ?_
  refine nx_againB (e' := [(3, _)]) (m := _) (H' := _) (by exact ⟨m, s', rfl, ⟨by omega, by rw [show ls.length - m = ls.length - (m + 1) + 1 by omega, take_snoc hb9]; exact hJ'⟩, rfl, rfl⟩)
 have hk0 : k = 0 := by omega
 subst hk0
 rw [Nat.sub_zero, List.take_of_length_le (by rw [bwd_len]; exact Nat.le_refl _)] at hJ
 refine at_exit <| Zt <| Zt <| nx_block_exit ?_
 refine nx_end0 rfl results166 (by exact ⟨s, rfl, hJ⟩)

theorem root_spec {M : List Chunk} {v : Value} {ls : List Bs} (hv : StrsU M v ls) (hn : ls.length ≤ 1000000) (hs : ∀ s ∈ ls, s.length ≤ 140737488354000) (Tg : TypeId) (zg : Nat × Nat) : DoesR Tryz.prog 101 #[v] [[(1, .cells (kTab.map u32v).toArray Tg zg)], M] (.string (str (rootT ls))) := by
 have hml : maxLen = 9223372036854775807 := rfl
 obtain ⟨p, cap, rfl, hl, hg⟩ := hv
 refine spec_enterM func101 rfl ntmps101 rfl ?_
 intro u R
 refine Zb [0] ?_
 refine Zq <| Zg <| Za Y <| Z0 <| Zx <| Zq <| Zg <| Za Y <| Z0 <| Zx <| Zq <| Zg <| Za Y <| Z0 <| Zx <| Zq <| Zq <| Zg <| Zm Y <| Zv (p_len_slice underlying61 Y) <| Zm Y <| Z0 <| Zx <| at_block ?_
 refine at_nil ?_
 refine at_nil ?_
 refine Zb [3, 4, 13, 11, 12] ?_
 refine at_loopB (e0 := [(3, _), (4, _), (13, _)]) (H0 := _) (n := _) (fun m e H => ∃ (i : Nat) (ps : List (List Bs)) (vw : Value) (sw : List Chunk) (vz : Value) (sz : List Chunk), m = ls.length - i ∧ (i ≤ ls.length ∧ BinP ps ∧ ps.flatten = ls.take i ∧ RowS 1 9 vw ps.length (ps.map rtV) sw ∧ RowS 1 3 vz ps.length (ps.map lnV) sz ∧ ps.length ≤ i) ∧ e = [(3, vw), (4, vz), (13, .int .i64 (i : Int))] ∧ H = [sw, sz]) (by exact ⟨0, [], .slice none 0 0, [], .slice none 0 0, [], rfl, ⟨Nat.zero_le _, binP_nil, rfl, rowS_nil 1 _, rowS_nil 1 _, Nat.le_refl _⟩, rfl, rfl⟩) Wp ?_
 rintro _ _ _ ⟨i, ps, vw, sw, vz, sz, rfl, ⟨hi, hB, hf, hrw, hrz, hpi⟩, rfl, rfl⟩
 refine Zq <| Zg <| Zv (p_lss_nat Y Y) <| Z0 <| Zx <| Zq ?_
 refine at_if Y (fun hlt => ?_) (fun hlt => ?_)
 ·
  obtain ⟨s9, hs9⟩ : ∃ s9, ls[i]? = some s9 := ⟨_, List.getElem?_eq_getElem hlt⟩
  obtain ⟨g, o, cur, T, zz, rfl, hm9, hex9⟩ := hg i s9 hs9
  obtain ⟨qw, cw, rfl⟩ := hrw.form
  obtain ⟨qz, cz, rfl⟩ := hrz.form
  have hs91 := hs s9 (List.mem_of_getElem? hs9)
  refine at_skip <| Zx <| Zq <| at_block <| Zq <| Zg ?_
  (refine op_v (p_indexAddr_nat1 underlying61 sizeOf9 Y Y ?_) ?_; (focus (omega)))
  refine op_rm (cs := [(g, .cells cur T zz)]) (by simp [hm9]) (p_load isAgg9 Y (by exact hex9)) rfl rfl ?_
  refine Za Y <| Z0 <| Zx <| Zq <| Zg <| Zm Y <| Zm Y <| Xr [_] Y call136 Y rfl (leaf_spec s9 hs91 Tg zg) ?_
  refine Ze (w_buildSlice (vs := [_]) (cs := [_]) underlying61 sizeOf9 zeroValue9 Y rfl rfl rfl rfl rfl) ?_
  rintro _ _ ⟨b1, rfl, rfl⟩
  refine Ze (w_appendS (by_ := 16) (sz := 1) (news := [_]) underlying61 (rfl : Tryz.prog.info? 9 = some Tryz.t9) rfl rfl rfl rfl Y hrw Y Wo Wh (by rfl) rfl (by simp [Value.oneCell']) (by decide) (by omega) (by omega)) ?_
  rintro _ _ ⟨sw, hrw, rfl⟩
  obtain ⟨gw, cw, rfl⟩ := hrw.form
  refine Zm Y <| Ze (w_buildSlice (vs := [_]) (cs := [_]) underlying28 sizeOf3 zeroValue3 Y rfl rfl rfl rfl rfl) ?_
  rintro _ _ ⟨b3, rfl, rfl⟩
  refine Ze (w_appendS (by_ := 8) (sz := 1) (news := [_]) underlying28 (rfl : Tryz.prog.info? 3 = some Tryz.t3) rfl rfl rfl rfl Y hrz Y Wo Wh (by rfl) rfl (by simp [Value.oneCell']) (by decide) (by omega) (by omega)) ?_
  rintro _ _ ⟨sz, hrz, rfl⟩
  obtain ⟨gz, cz, rfl⟩ := hrz.form
  refine Za Y <| Za Y <| Z0 <| Zn [3, 4, 11, 12, 13] ?_
  refine Zx <| Zq <| Zg <| Zm Y <| Zv (p_len_slice underlying28 Y) <| Za Y <| Z0 <| Zx <| at_block <| Zb [3, 4, 7, 11, 12, 13] ?_
  refine at_loopB (e0 := [(3, _), (4, _), (7, _)]) (H0 := _) (n := _) (fun m e H => ∃ (ps2 : List (List Bs)) (q : List Bs) (vw2 : Value) (sw2 : List Chunk) (vz2 : Value) (sz2 : List Chunk), m = 0 + ps2.length ∧ (MergeI ls ps2 q (i + 1) ∧ RowS 1 9 vw2 (ps2.length + 1) ((ps2 ++ [q]).map rtV) sw2 ∧ RowS 1 3 vz2 (ps2.length + 1) ((ps2 ++ [q]).map lnV) sz2 ∧ ps2.length ≤ i) ∧ e = [(3, vw2), (4, vz2), (7, .int .i64 ((ps2.length + 1 : Nat) : Int))] ∧ H = [sw2, sz2]) (by exact ⟨ps, [s9], _, _, _, _, rfl, ⟨merge_new hB hf hs9, rowS_eq hrw rfl (by rw [List.map_append, List.map_singleton]; unfold rtV; rw [root_one]; rfl), rowS_eq hrz rfl (by rw [List.map_append]; rfl), hpi⟩, rfl, rfl⟩) Wp ?_
  rintro _ _ _ ⟨ps2, q, vw2, sw2, vz2, sz2, rfl, ⟨hM, hrw2, hrz2, hp2⟩, rfl, rfl⟩
  refine Zq <| Zq <| at_draw (n := 15) (0 :: 1 :: 3 :: 7 :: 7 :: 23 :: 63 :: 127 :: 7 :: 7 :: 519 :: 1799 :: 3847 :: 8191 :: 16383 :: []) 0 (by kernel_rfl) (by kernel_rfl) rfl ?_
  refine Zi 1 0 rfl (p_move Y) <| Zi 3 1 rfl (p_gtr_nat (n := 1) Y Y) <| Zi 7 2 rfl (p_move Y) ?_
  refine lin_split (t := 29) Y (fun hn9 => ?_) (fun hn9 => ?_)
  ·
   first | rw [decide_eq_true hn9] | rw [hn9] | skip
   obtain ⟨ps1, p9, rfl⟩ := last_of (ps := ps2) (by omega)
   have hpl : (ps1 ++ [p9]).length = ps1.length + 1 := by simp
   obtain ⟨gw2, cw2, curw2, zw2, rfl, rfl, hlw2, hgw2⟩ := rowS_get (id hrw2) (by omega)
   obtain ⟨gz2, cz2, curz2, zz2, rfl, rfl, hlz2, hgz2⟩ := rowS_get (id hrz2) (by omega)
   have hz1 := hgz2 _ _ (two_at lnV ps1 p9 q).1
   have hz2 := hgz2 _ _ (two_at lnV ps1 p9 q).2
   have hw1 := hgw2 _ _ (two_at rtV ps1 p9 q).1
   have hw2 := hgw2 _ _ (two_at rtV ps1 p9 q).2
   have hql : q.length ≤ ls.length := by have h9 := congrArg List.length hM.flat; rw [List.length_append, List.length_take] at h9; omega
   refine lin_wg (D' := 15) 3 Y rfl rfl rfl (p_move Y) ?_
   refine lin_wg (D' := 31) 4 Y rfl rfl rfl (p_move Y) ?_
   (refine lin_wg (D' := 63) 5 Y rfl rfl rfl (p_sub_nat (n := 2) Y Y ?_ ?_) ?_; (focus (omega)); (focus (omega)))
   (refine lin_wg (D' := 127) 6 Y rfl rfl rfl (p_indexAddr_nat0 underlying28 sizeOf3 Y Y ?_) ?_; (focus (omega)))
   refine lin_rg (D' := 255) 7 Y rfl rfl rfl Wh (p_load isAgg3 Y (by exact hz1)) ?_
   refine lin_wg (D' := 511) 8 Y rfl rfl rfl (p_move Y) ?_
   refine lin_wg (D' := 1023) 9 Y rfl rfl rfl (p_move Y) ?_
   (refine lin_wg (D' := 2047) 10 Y rfl rfl rfl (p_sub_nat (n := 1) Y Y ?_ ?_) ?_; (focus (omega)); (focus (omega)))
   (refine lin_wg (D' := 4095) 11 Y rfl rfl rfl (p_indexAddr_nat0 underlying28 sizeOf3 Y Y ?_) ?_; (focus (omega)))
   refine lin_rg (D' := 8191) 12 Y rfl rfl rfl Wh (p_load isAgg3 Y (by exact hz2)) ?_
   refine lin_wg (D' := 16383) 13 Y rfl rfl rfl (p_eql_nat Y Y) ?_
   refine Zi 32767 14 rfl (p_pick_t Y Y) <| lin_nil ?_
   refine Zn [3, 4, 7, 11, 12, 13, 41] ?_
   refine Zx ?_
   refine at_if Y (fun he => ?_) (fun he => ?_)
   ·
    have hst := hM.step he
    refine at_skip <| Zx <| Zq <| at_block <| Zq <| at_draw (n := 18) (0 :: 0 :: 2 :: 7 :: 0 :: 0 :: 32 :: 112 :: 240 :: 0 :: 0 :: 1024 :: 3584 :: 7680 :: 16368 :: 32752 :: 65535 :: 131071 :: []) 114688 (by kernel_rfl) (by kernel_rfl) rfl ?_
    refine Zi 1 0 rfl (p_move Y) <| Zi 3 1 rfl (p_move Y) ?_
    (refine lin_v (D' := 7) 2 (p_sub_nat (n := 2) Y Y ?_ ?_) ?_; (focus (omega)); (focus (omega)))
    (refine lin_v (D' := 15) 3 (p_slice_slice_to underlying61 sizeOf9 Y Y ?_) ?_; (focus (first | omega | (simp; omega))))
    refine Zi 31 4 rfl (p_move Y) <| Zi 63 5 rfl (p_move Y) ?_
    (refine lin_v (D' := 127) 6 (p_sub_nat (n := 2) Y Y ?_ ?_) ?_; (focus (omega)); (focus (omega)))
    (refine lin_v (D' := 255) 7 (p_indexAddr_nat0 underlying61 sizeOf9 Y Y ?_) ?_; (focus (first | omega | (simp; omega))))
    refine Zj 511 8 rfl isAgg9 Y (hv := by exact hw1) ?_
    refine Zi 1023 9 rfl (p_move Y) <| Zi 2047 10 rfl (p_move Y) ?_
    (refine lin_v (D' := 4095) 11 (p_sub_nat (n := 1) Y Y ?_ ?_) ?_; (focus (omega)); (focus (omega)))
    (refine lin_v (D' := 8191) 12 (p_indexAddr_nat0 underlying61 sizeOf9 Y Y ?_) ?_; (focus (first | omega | (simp; omega))))
    refine Zj 16383 13 rfl isAgg9 Y (hv := by exact hw2) ?_
    refine Yz 14 16368 32767 [13, 8] [false, false] [] rfl Y rfl rfl rfl rfl (Zu [_, _] Y call137 Y rfl (node_spec (rootT p9) (rootT q) (by rw [root_len]; omega) (by rw [root_len]; omega) Tg zg)) ?_
    rintro _ _ ⟨rfl, rfl⟩
    refine ⟨keep_nil, ?_⟩
    refine Yz 15 32752 65535 [] [] [] rfl Y rfl rfl rfl rfl (w_buildSlice (vs := [_]) (cs := [_]) underlying61 sizeOf9 zeroValue9 Y rfl rfl rfl rfl rfl) ?_
    rintro _ _ ⟨b5, rfl, rfl⟩
    refine ⟨keep_nil, ?_⟩
    refine Yz 16 65535 131071 [] [] [] rfl Y rfl rfl rfl rfl (w_appendS (by_ := 16) (sz := 1) (news := [_]) underlying61 (rfl : Tryz.prog.info? 9 = some Tryz.t9) rfl rfl rfl rfl Y (rowS_take hrw2 ((ps1 ++ [p9]).length + 1 - 2) (by omega)) Y Wo Wh (by rfl) rfl (by simp [Value.oneCell']) (by decide) (by omega) (by omega)) ?_
    rintro _ _ ⟨sw3, hrw3, rfl⟩
    refine ⟨keep_nil, ?_⟩
    obtain ⟨gw3, cw3, rfl⟩ := hrw3.form
    refine Zi 262143 17 rfl (p_assign Y) <| lin_nil ?_
    refine Zn [3, 4, 7, 11, 12, 13] ?_
    refine Zx <| at_draw (n := 13) (0 :: 0 :: 2 :: 7 :: 0 :: 0 :: 32 :: 112 :: 240 :: 496 :: 1008 :: 2047 :: 4095 :: []) 3072 (by kernel_rfl) (by kernel_rfl) rfl ?_
    refine Zi 1 0 rfl (p_move Y) <| Zi 3 1 rfl (p_move Y) ?_
    (refine lin_v (D' := 7) 2 (p_sub_nat (n := 2) Y Y ?_ ?_) ?_; (focus (first | omega | (simp; omega))); (focus (first | omega | (simp; omega))))
    (refine lin_v (D' := 15) 3 (p_slice_slice_to underlying28 sizeOf3 Y Y ?_) ?_; (focus (first | omega | (simp; omega))))
    refine Zi 31 4 rfl (p_move Y) <| Zi 63 5 rfl (p_move Y) ?_
    (refine lin_v (D' := 127) 6 (p_sub_nat (n := 1) Y Y ?_ ?_) ?_; (focus (first | omega | (simp; omega))); (focus (first | omega | (simp; omega))))
    (refine lin_v (D' := 255) 7 (p_indexAddr_nat0 underlying28 sizeOf3 Y Y ?_) ?_; (focus (first | omega | (simp; omega))))
    refine Zj 511 8 rfl isAgg3 Y (hv := by exact hz2) ?_
    (refine lin_v (D' := 1023) 9 (p_mul_nat (m := 2) Y Y ?_) ?_; (focus (first | omega | (simp; omega))))
    refine Yz 10 1008 2047 [8] [false] [] rfl Y rfl rfl rfl rfl (w_buildSlice (vs := [_]) (cs := [_]) underlying28 sizeOf3 zeroValue3 Y rfl rfl rfl rfl rfl) ?_
    rintro _ _ ⟨b7, rfl, rfl⟩
    refine ⟨keep_nil, ?_⟩
    refine Yz 11 2047 4095 [] [] [] rfl Y rfl rfl rfl rfl (w_appendS (by_ := 8) (sz := 1) (news := [_]) underlying28 (rfl : Tryz.prog.info? 3 = some Tryz.t3) rfl rfl rfl rfl Y (rowS_take hrz2 ((ps1 ++ [p9]).length + 1 - 2) (by omega)) Y Wo Wh (by rfl) rfl (by simp [Value.oneCell']) (by decide) (by omega) (by omega)) ?_
    rintro _ _ ⟨sz3, hrz3, rfl⟩
    refine ⟨keep_nil, ?_⟩
    obtain ⟨gz3, cz3, rfl⟩ := hrz3.form
    refine Zi 8191 12 rfl (p_assign Y) <| lin_nil ?_
    refine Zn [3, 4, 7, 11, 12, 13] ?_
    refine nx_block_normal <| Zx <| Zg <| Zm Y <| Yb (n := 1) Y Y <| Za Y <| Z0 <| Zn [3, 4, 7, 11, 12, 13] ?_
    refine nx_againB (e' := [(3, _), (4, _), (7, _)]) (m := _) (H' := _) (by exact ⟨ps1, p9 ++ q, _, _, _, _, rfl, ⟨hst.1, rowS_eq hrw3 (by omega) (by rw [two_take, List.map_append, List.map_singleton]; unfold rtV; rw [hst.2]; rfl), rowS_eq hrz3 (by omega) (by rw [two_take, List.map_append, List.map_singleton]; unfold lnV; rw [List.length_append, he, ← Nat.two_mul]), by omega⟩, (by rw [show (ps1 ++ [p9]).length + 1 - 1 = ps1.length + 1 by omega]), rfl⟩)
   have hD := hM.done (fun a b e9 => by have e8 := List.singleton_inj.1 (List.append_inj' e9 rfl).2; rw [← e8]; exact he)
   refine at_exit <| Zt <| Zt <| nx_block_exit <| nx_block_normal <| Zx <| Zg <| Ya (n := 1) Y Y <| Zm Y <| Z0 <| Zn [3, 4, 13, 11, 12] ?_
   refine nx_againB (e' := [(3, _), (4, _), (13, _)]) (m := _) (H' := _) (by exact ⟨i + 1, _, _, _, _, _, rfl, ⟨by omega, hD.1, hD.2, rowS_eq hrw2 (by simp) rfl, rowS_eq hrz2 (by simp) rfl, by rw [List.length_append]; simp; omega⟩, rfl, rfl⟩)
  first | rw [decide_eq_false hn9] | rw [hn9] | skip
  have hD := hM.done (fun a b e9 => by have e8 := congrArg List.length e9; rw [List.length_append] at e8; simp at e8; omega)
  refine Yk 15 3 rfl <| Yk 31 4 rfl <| Yk 63 5 rfl <| Yk 127 6 rfl <| Yk 255 7 rfl <| Yk 511 8 rfl <| Yk 1023 9 rfl <| Yk 2047 10 rfl <| Yk 4095 11 rfl <| Yk 8191 12 rfl <| Yk 16383 13 rfl <| Zi 32767 14 rfl (p_pick_f Y Y) <| lin_nil ?_
  refine Zn [3, 4, 7, 11, 12, 13, 41] ?_
  refine Zx <| at_else Y <| at_exit <| Zt <| Zt <| nx_block_exit <| nx_block_normal <| Zx <| Zg <| Ya (n := 1) Y Y <| Zm Y <| Z0 <| Zn [3, 4, 13, 11, 12] ?_
  refine nx_againB (e' := [(3, _), (4, _), (13, _)]) (m := _) (H' := _) (by exact ⟨i + 1, _, _, _, _, _, rfl, ⟨by omega, hD.1, hD.2, rowS_eq hrw2 (by simp) rfl, rowS_eq hrz2 (by simp) rfl, by rw [List.length_append]; simp; omega⟩, rfl, rfl⟩)
 have ei : i = ls.length := by omega
 subst ei
 rw [List.take_of_length_le (Nat.le_refl _)] at hf
 obtain ⟨qw, cw, rfl⟩ := hrw.form
 refine at_exit <| Zt <| Zt <| nx_block_exit <| Zx <| Zq <| Zq <| Zg <| Zm Y <| Zv (p_len_slice underlying61 Y) <| Zv (p_eql_nat (n := 0) Y Y) <| Z0 <| Zx ?_
 refine at_if Y (fun h0 => ?_) (fun h0 => ?_)
 ·
  have e0 := List.eq_nil_of_length_eq_zero h0
  subst e0
  have e1 : ls = [] := hf.symm
  refine Zq <| Zg <| Xr [_] Y call138 Y rfl (sum_str [] (by simp) Tg zg) ?_
  refine Za Y <| Z0 <| Zx <| at_ret <| Zt ?_
  refine nx_endM0 rfl (res1 results101 Y) (by exact ⟨by rw [e1, root_nil], rfl⟩)
 obtain ⟨ps1, q, rfl⟩ := last_of (ps := ps) (by omega)
 obtain ⟨gw2, cw2, curw2, zw2, hev, rfl, hlw2, hgw2⟩ := rowS_get (id hrw) (by omega)
 injection hev with hev1 hev2 hev3
 subst hev1 hev3
 have hw1 := hgw2 _ _ (last_at rtV ps1 q)
 have hql : (ps1 ++ [q]).length = ps1.length + 1 := by simp
 refine at_skip <| Zx <| Zq <| Zg <| Zm Y <| Zm Y <| Zv (p_len_slice underlying61 Y) <| Yb (n := 1) Y Y ?_
 (refine op_v (p_indexAddr_nat0 underlying61 sizeOf9 Y Y ?_) ?_; (focus (omega)))
 refine Zl isAgg9 Y (hv := by exact hw1) ?_
 refine Ze (w_alloc zeroValue9 (cs := #[_]) rfl) ?_
 rintro _ _ ⟨ob, rfl, rfl⟩
 refine Xe (Zs sizeOf9 Y Y rfl (hc := by exact (rfl : _ = (#[strV (rootT q)] : Array Value)))) ?_
 refine Z0 <| Zx <| Zq <| Zq <| Zg <| Zm Y <| Zm Y <| Zv (p_len_slice underlying61 Y) <| Yb (n := 1) Y Y ?_
 (refine op_v (p_slice_slice_to underlying61 sizeOf9 Y Y ?_) ?_; (focus (first | omega | (simp; omega))))
 refine Zc [_] Y call139 Y rfl (backward_spec _ _ _) ?_
 rintro _ _ ⟨_, ⟨bb, rfl, rfl⟩, rfl⟩
 refine Z0 <| Zn [8, 89] ?_
 refine Zx <| at_block <| Zb [8, 89] ?_
 refine at_rangeAllA (H0 := _) (R := _) (I := (fun pre H => H = [[(ob, .cells #[strV (pre.foldl (fun o (x : Nat × Bs) => nodeS x.2 o) (rootT q))] 9 (0, 0))], [(gw2, .cells curw2 9 zw2)], [(1, .cells (kTab.map u32v).toArray Tg zg)]])) (asg := fun x => [(10, strV x.2), (91, strV x.2), (90, .int .i64 ((x.1 : Nat) : Int))]) rfl Y call166 (backward_iter (ls := ps1.map rootT) (v := .slice (some ⟨gw2, 0, none⟩) ((ps1 ++ [q]).length - 1) cw) (strsU_row (rowS_eq (rowS_take hrw ((ps1 ++ [q]).length - 1) (by omega)) (by simp) (by rw [last_take, List.map_map]; rfl)) (by rw [List.length_map]; omega)) bb (by rw [List.length_map]; omega)) (fun pre H1 c d h => by subst h; intro x hx; simp at hx; simp [hx]) Y rfl Wp (rfl) ?ha_13 ?hbd_13 ?hk_13
 case ha_13 =>
  intro _ x _ _
  refine Zg <| Za Y <| Z0 ?_
  exact nx_is
 case hbd_13 =>
  intro l pre x post u H1 R1 hxs hI
  subst hI
  refine at_block <| Zg <| Zm Y <| Zl isAgg9 Y ?_
  refine Xr [_, _] Y call137 Y rfl (node_spec x.2 _ (by obtain ⟨y9, _, e9⟩ := List.mem_map.1 (bwd_mem (mem_split hxs)); rw [← e9, root_len]; omega) (by rw [fold_len _ _ (root_len q)]; omega) Tg zg) ?_
  refine Xe (Zs sizeOf9 Y Y rfl) ?_
  refine Z0 <| nx_block_normal ?_
  refine nx_round (H' := _) rfl (by rw [List.foldl_append])
 intro D1 H2 hI2
 subst hI2
 refine Zn [8] ?_
 refine nx_block_normal <| Zx <| Zq <| Zg <| Zl isAgg9 Y ?_
 refine Za Y <| Z0 <| Zx <| at_ret ?_
 refine nx_endM1 rfl (res1 results101 Y) Wo (by exact ⟨by rw [fold_bwd, fold_rev, hB.root, ← hf]; simp, rfl⟩)

end Go.Proofs.YtkgmgmkbgnkdnaaGreatDoor
