/- Rows of several cells, read. -/
import Derived.Test.YtkgmgmkbgnkdnaaGreatEz
import Derived.Test.YtkgmgmkbgnkdnaaGreatLg5
namespace Go.Proofs.YtkgmgmkbgnkdnaaGreat
open Go.Proofs.Tryz
open Go Go.RowKit Gw
set_option linter.unusedVariables false
set_option linter.unusedSimpArgs false
set_option maxRecDepth 100000
attribute [local irreducible] Gw.At Gw.Nx Gw.Ops
theorem rowS_ext {sz : Nat} {e : TypeId} {v : Value} {k : Nat} {xs : List Value} {s : List Chunk} (h : RowS sz e v k xs s) (i : Nat) (hi : i < k) : ∃ g cap cur z, v = .slice (some ⟨g, 0, none⟩) k cap ∧ s = [(g, .cells cur e z)] ∧ i * sz + sz ≤ cur.size ∧ (cur.extract (i * sz) (i * sz + sz)).toList = (xs.drop (i * sz)).take sz := by
  obtain ⟨hl, ⟨_, h0, _⟩ | ⟨g, cap, cur, z, rfl, rfl, hk, hc, hsz, htk, hf⟩⟩ := h
  · omega
  · have h1 : i * sz + sz ≤ k * sz := by
      have := Nat.mul_le_mul_right sz (Nat.succ_le_of_lt hi)
      rw [Nat.succ_mul] at this; exact this
    have h2 : k * sz ≤ cap * sz := Nat.mul_le_mul_right sz hk
    refine ⟨g, cap, cur, z, rfl, rfl, by omega, ?_⟩
    rw [← htk, Array.toList_extract, List.extract_eq_take_drop, List.drop_take, List.take_take]
    congr 1; omega
def rowCells (rs : List RowM) : List Value := rs.flatMap (fun r => [.int .i64 r.t, .int .i64 r.k, .int .i64 r.v.a, .int .i64 r.v.b, .int .i64 r.v.c])
theorem flat_at {α : Type} (f : α → List Value) (sz : Nat) (hf : ∀ a, (f a).length = sz) : ∀ (l : List α) (i : Nat) (a : α), l[i]? = some a → ((l.flatMap f).drop (i * sz)).take sz = f a
  | x :: l, 0, a, h => by
    injection h with h; subst h
    rw [Nat.zero_mul, List.drop_zero, List.flatMap_cons, List.take_append_of_le_length (by rw [hf]; exact Nat.le_refl _), List.take_of_length_le (by rw [hf]; exact Nat.le_refl _)]
  | x :: l, i + 1, a, h => by
    have e1 : (f x ++ l.flatMap f).drop sz = l.flatMap f := by
      have h9 := List.drop_left (l₁ := f x) (l₂ := l.flatMap f); rwa [hf] at h9
    rw [List.flatMap_cons, Nat.succ_mul, Nat.add_comm, ← List.drop_drop, e1]
    exact flat_at f sz hf l i a h
theorem rowsIn_of {e : TypeId} {v : Value} {rs : List RowM} {s : List Chunk} (h : RowS 5 e v rs.length (rowCells rs) s) (hn : rs.length ≤ maxLen) : RowsIn s v rs := by
  obtain ⟨b, cap, rfl⟩ := h.form
  refine ⟨b, cap, rfl, hn, fun i r hr => ?_⟩
  obtain ⟨g, cap', cur, z, hv, rfl, hsz, hex⟩ := rowS_ext h i (List.getElem?_eq_some_iff.1 hr).1
  injection hv with hv1 hv2 hv3
  refine ⟨g, 0, cur, e, z, hv1, List.mem_singleton.2 rfl, by omega, ?_⟩
  rw [Nat.zero_add]
  apply Array.toList_inj.1
  rw [hex]
  exact flat_at _ 5 (fun _=>rfl) rs i r hr
def chgCells (cs : List Chg) : List Value := cs.flatMap (fun c => [.int .i64 c.t, .int .i64 c.k, .bool c.had, .int .i64 c.o.a, .int .i64 c.o.b, .int .i64 c.o.c, .bool c.has, .int .i64 c.n.a, .int .i64 c.n.b, .int .i64 c.n.c])
theorem chgsIn_of {e : TypeId} {v : Value} {rs : List Chg} {s : List Chunk} (h : RowS 10 e v rs.length (chgCells rs) s) (hn : rs.length ≤ maxLen) : ChgsIn s v rs := by
  obtain ⟨b, cap, rfl⟩ := h.form
  refine ⟨b, cap, rfl, hn, fun i r hr => ?_⟩
  obtain ⟨g, cap', cur, z, hv, rfl, hsz, hex⟩ := rowS_ext h i (List.getElem?_eq_some_iff.1 hr).1
  injection hv with hv1 hv2 hv3
  refine ⟨g, 0, cur, e, z, hv1, List.mem_singleton.2 rfl, by omega, ?_⟩
  rw [Nat.zero_add]
  apply Array.toList_inj.1
  rw [hex]
  exact flat_at _ 10 (fun _=>rfl) rs i r hr
end Go.Proofs.YtkgmgmkbgnkdnaaGreat
