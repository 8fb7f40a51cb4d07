/- The program's layer 3: put. -/
/- Rows of several cells, read. -/
/- Walking by chunks: append of a part of a slice whose elements are of several cells, to an own slice. No function of the program is named. -/
import Derived.Test.YtcbjoojdfelgaaaGreatDoorEz
import Derived.Test.YtcbjoojdfelgaaaGreatDoorLg5
import Derived.Test.YtcbjoojdfelgaaaGreatDoorEx14
namespace Go.Proofs.YtcbjoojdfelgaaaGreatDoor
open Go.Proofs.Tryz
open Go Go.RowKit Gw
set_option linter.unusedVariables false
set_option linter.unusedSimpArgs false
set_option maxRecDepth 100000
attribute [local irreducible] Gw.At Gw.Nx Gw.Ops
def putAll (ls : List Int) : List UInt8 := ls.flatMap encI
theorem putAll_len : ∀ (ls : List Int), (∀ n ∈ ls, -4611686018427387903 ≤ n ∧ n ≤ 4611686018427387903) → (putAll ls).length ≤ ls.length * 9
  | [], _ => by simp [putAll]
  | n :: ls, h => by
    have h1 := putAll_len ls (fun m hm => h m (by simp [hm]))
    have h2 := encI_len n (h n (by simp)).1 (h n (by simp)).2
    unfold putAll at *
    rw [List.flatMap_cons, List.length_append, List.length_cons]; omega
theorem putAll_snoc (ls : List Int) (n : Int) : putAll (ls ++ [n]) = putAll ls ++ encI n := by simp [putAll]

theorem rw_put (g off cap : Nat) (cur : Array Value) (T : TypeId) (z : Nat × Nat) (ls : List Int) (hin : IntsAt cur off ls) (hn : ls.length ≤ 1073741824) (hr : ∀ n ∈ ls, -4611686018427387903 ≤ n ∧ n ≤ 4611686018427387903) :
    DoesR Tryz.prog 89 #[.slice (some ⟨g, off, none⟩) ls.length cap] [[(g, .cells cur T z)]] (.string (str (putAll ls))) := by
 have hml : maxLen = 9223372036854775807 := rfl
 refine spec_enter func89 rfl ntmps89 rfl ?_
 intro u R
 refine Zb [0] ?_
 refine Zq <| Zg <| Za Y <| Z0 <| Zx <| Zq <| Zg <| Za Y <| Z0 <| Zx <| Zq <| Zq <| Zg <| Zm Y <| Zv (p_len_slice underlying120 Y) <| Zm Y <| Z0 <| Zx <| at_block <| Zb [3, 10, 8, 9] ?_
 refine at_loopB (e0 := [(3, _), (10, _)]) (H0 := _) (n := _) (fun m e H => ∃ (i : Nat), m = ls.length - i ∧ (i ≤ ls.length) ∧ e = [(3, .string (str (putAll (ls.take i)))), (10, .int .i64 (i : Int))] ∧ H = []) (by exact ⟨0, rfl, Nat.zero_le _, rfl, rfl⟩) (by repeat (first | exact Pull.nil _ | (apply Pull.cons; (focus (repeat (first | exact One.here _ _ | apply One.there)))))) ?_
 rintro _ _ _ ⟨i, rfl, hi, rfl, rfl⟩
 refine Zq <| Zg ?_
 first | refine op_v (p_lss_nat Y Y) ?_ | refine op_v (p_lss Y Y) ?_
 refine Z0 <| Zx <| Zq ?_
 first | refine at_if Y (fun hlt => ?_) (fun hlt => ?_) | refine at_if_bool Y (fun hlt => ?_) (fun hlt => ?_)
 ·
  obtain ⟨x, hx⟩ : ∃ x, ls[i]? = some x := ⟨_, List.getElem?_eq_getElem hlt⟩
  have hxr := hr x (List.mem_of_getElem? hx)
  have htk : ls.take (i + 1) = ls.take i ++ [x] := by rw [List.take_add_one, hx]; rfl
  have hpl := putAll_len (ls.take i) (fun m hm => hr m (List.mem_of_mem_take hm))
  have htl : (ls.take i).length ≤ i := List.length_take_le ..
  have hel := encI_len x hxr.1 hxr.2
  refine at_skip <| Zx <| Zq <| at_block <| Zq <| Zg ?_
  first | (refine op_v (p_indexAddr_nat0 underlying120 sizeOf3 Y Y ?_) ?_; (focus (omega))) | (refine op_v (p_indexAddr_nat1 underlying120 sizeOf3 Y Y ?_) ?_; (focus (omega)))
  refine Zl isAgg3 Y (hv := by exact hin i x hx) ?_
  refine Za Y <| Z0 <| Zx <| Zq <| Zg <| Zm Y <| Zr [_] Y call54 Y rfl (putInt_spec x hxr.1 hxr.2) ?_
  rintro _ _ ⟨rfl, rfl⟩
  refine Zm Y <| Zd Y rfl <| Zd Y rfl <| Za Y <| Za Y <| Z0 <| Zx <| Zg <| Zm Y <| Zm Y ?_
  (refine op_v (p_add_str Y Y ?_) ?_; (focus (rw [str_size, str_size]; omega)))
  refine Za Y <| Z0 <| Zn [3, 8, 9, 10] ?_
  refine nx_block_normal <| Zx <| Zg ?_
  first | (refine op_v (p_add_nat (n := 1) Y Y ?_) ?_; (focus (omega))) | (refine op_v (p_add Y Y (IntWalk.i64_in _ ?_)) ?_; (focus (omega)))
  refine Zm Y <| Z0 <| Zn [3, 10, 8, 9] ?_
  refine nx_againB (e' := [(3, _), (10, _)]) (m := _) (H' := _) (by exact ⟨i + 1, rfl, by omega, by rw [htk, putAll_snoc, ← str_app], rfl⟩)
 ·
  refine at_exit <| Zt <| Zt <| nx_block_exit <| Zx <| Zq <| Zg <| Zm Y <| Za Y <| Z0 <| Zx <| at_ret ?_
  refine nx_end1 rfl results89 Y (by exact ⟨by rw [List.take_of_length_le (by omega)], rfl⟩)

end Go.Proofs.YtcbjoojdfelgaaaGreatDoor

namespace Go.Proofs.YtcbjoojdfelgaaaGreatDoor
open Go.Proofs.Tryz
open Go Go.RowKit Gw
set_option linter.unusedVariables false
set_option linter.unusedSimpArgs false
set_option maxRecDepth 100000
attribute [local irreducible] Gw.At Gw.Nx Gw.Ops
theorem rowS_ext {sz : Nat} {e : TypeId} {v : Value} {k : Nat} {xs : List Value} {s : List Chunk} (h : RowS sz e v k xs s) (i : Nat) (hi : i < k) : ∃ g cap cur z, v = .slice (some ⟨g, 0, none⟩) k cap ∧ s = [(g, .cells cur e z)] ∧ i * sz + sz ≤ cur.size ∧ (cur.extract (i * sz) (i * sz + sz)).toList = (xs.drop (i * sz)).take sz := by
  obtain ⟨hl, ⟨_, h0, _⟩ | ⟨g, cap, cur, z, rfl, rfl, hk, hc, hsz, htk, hf⟩⟩ := h
  · omega
  · have h1 : i * sz + sz ≤ k * sz := by
      have := Nat.mul_le_mul_right sz (Nat.succ_le_of_lt hi)
      rw [Nat.succ_mul] at this; exact this
    have h2 : k * sz ≤ cap * sz := Nat.mul_le_mul_right sz hk
    refine ⟨g, cap, cur, z, rfl, rfl, by omega, ?_⟩
    rw [← htk, Array.toList_extract, List.extract_eq_take_drop, List.drop_take, List.take_take]
    congr 1; omega
/-- The cells of rows. -/
def rowCells (rs : List RowM) : List Value := rs.flatMap (fun r => [.int .i64 r.t, .int .i64 r.k, .int .i64 r.v.a, .int .i64 r.v.b, .int .i64 r.v.c])
theorem flat_at {α : Type} (f : α → List Value) (sz : Nat) (hf : ∀ a, (f a).length = sz) : ∀ (l : List α) (i : Nat) (a : α), l[i]? = some a → ((l.flatMap f).drop (i * sz)).take sz = f a
  | x :: l, 0, a, h => by
    injection h with h; subst h
    rw [Nat.zero_mul, List.drop_zero, List.flatMap_cons, List.take_append_of_le_length (by rw [hf]; exact Nat.le_refl _), List.take_of_length_le (by rw [hf]; exact Nat.le_refl _)]
  | x :: l, i + 1, a, h => by
    have e1 : (f x ++ l.flatMap f).drop sz = l.flatMap f := by
      have h9 := List.drop_left (l₁ := f x) (l₂ := l.flatMap f); rwa [hf] at h9
    rw [List.flatMap_cons, Nat.succ_mul, Nat.add_comm, ← List.drop_drop, e1]
    exact flat_at f sz hf l i a h
theorem rowsIn_of {e : TypeId} {v : Value} {rs : List RowM} {s : List Chunk} (h : RowS 5 e v rs.length (rowCells rs) s) (hn : rs.length ≤ maxLen) : RowsIn s v rs := by
  obtain ⟨b, cap, rfl⟩ := h.form
  refine ⟨b, cap, rfl, hn, fun i r hr => ?_⟩
  obtain ⟨g, cap', cur, z, hv, rfl, hsz, hex⟩ := rowS_ext h i (List.getElem?_eq_some_iff.1 hr).1
  injection hv with hv1 hv2 hv3
  refine ⟨g, 0, cur, e, z, hv1, List.mem_singleton.2 rfl, by omega, ?_⟩
  rw [Nat.zero_add]
  apply Array.toList_inj.1
  rw [hex]
  exact flat_at _ 5 (fun _=>rfl) rs i r hr
def chgCells (cs : List Chg) : List Value := cs.flatMap (fun c => [.int .i64 c.t, .int .i64 c.k, .bool c.had, .int .i64 c.o.a, .int .i64 c.o.b, .int .i64 c.o.c, .bool c.has, .int .i64 c.n.a, .int .i64 c.n.b, .int .i64 c.n.c])
theorem chgsIn_of {e : TypeId} {v : Value} {rs : List Chg} {s : List Chunk} (h : RowS 10 e v rs.length (chgCells rs) s) (hn : rs.length ≤ maxLen) : ChgsIn s v rs := by
  obtain ⟨b, cap, rfl⟩ := h.form
  refine ⟨b, cap, rfl, hn, fun i r hr => ?_⟩
  obtain ⟨g, cap', cur, z, hv, rfl, hsz, hex⟩ := rowS_ext h i (List.getElem?_eq_some_iff.1 hr).1
  injection hv with hv1 hv2 hv3
  refine ⟨g, 0, cur, e, z, hv1, List.mem_singleton.2 rfl, by omega, ?_⟩
  rw [Nat.zero_add]
  apply Array.toList_inj.1
  rw [hex]
  exact flat_at _ 10 (fun _=>rfl) rs i r hr
end Go.Proofs.YtcbjoojdfelgaaaGreatDoor


namespace Gw
open Go Go.RowKit
/-- v is a part of a row: k elements of sz cells each; their cells: ys. -/
def SubVS (sz : Nat) (v : Value) (k : Nat) (ys : List Value) (s : List Chunk) : Prop :=
  ys.length = k * sz ∧ ((k = 0 ∧ ∃ b c, v = .slice b 0 c) ∨ ∃ g o cap cur T z, v = .slice (some ⟨g, o, none⟩) k cap ∧ s = [(g, .cells cur T z)] ∧ CellsIn cur o ys)
theorem rowS_some {sz : Nat} {e : TypeId} {v : Value} {k : Nat} {xs : List Value} {s : List Chunk} (h : RowS sz e v k xs s) (hk : 0 < k) : ∃ g cap cur z, v = .slice (some ⟨g, 0, none⟩) k cap ∧ s = [(g, .cells cur e z)] ∧ k ≤ cap ∧ CellsIn cur 0 xs := by
  obtain ⟨hl, ⟨_, h0, _⟩ | ⟨g, cap, cur, z, rfl, rfl, hle, _, _, htk, _⟩⟩ := h
  · omega
  · refine ⟨g, cap, cur, z, rfl, rfl, hle, ?_⟩
    unfold CellsIn
    rw [List.drop_zero, hl]; exact htk
theorem subS_of {sz : Nat} {e : TypeId} {v : Value} {k : Nat} {xs : List Value} {s : List Chunk} (h : RowS sz e v k xs s) : SubVS sz v k xs s := by
  refine ⟨h.1, ?_⟩
  rcases Nat.eq_zero_or_pos k with h0 | h0
  · obtain ⟨b, c, rfl⟩ := h.form
    subst h0
    exact .inl ⟨rfl, b, c, rfl⟩
  · obtain ⟨g, cap, cur, z, rfl, rfl, _, hin⟩ := rowS_some h h0
    exact .inr ⟨g, 0, cap, cur, e, z, rfl, rfl, hin⟩
theorem cells_part {cur : Array Value} {o a n : Nat} {ys : List Value} (h : CellsIn cur o ys) (hn : a + n ≤ ys.length) : CellsIn cur (o + a) ((ys.drop a).take n) := by
  unfold CellsIn at *
  have hl : ((ys.drop a).take n).length = n := by rw [List.length_take, List.length_drop]; omega
  rw [hl, ← List.drop_drop, ← h, List.drop_take, List.take_take]
  congr 1
  have := congrArg List.length h
  rw [List.length_take] at this
  omega
theorem subS_take {sz : Nat} {e : TypeId} {b : Option Addr} {n c : Nat} {xs : List Value} {s : List Chunk} (h : RowS sz e (.slice b n c) n xs s) (k d : Nat) (hk : k ≤ n) : SubVS sz (.slice b k d) k (xs.take (k * sz)) s := by
  have h1 : k * sz ≤ n * sz := Nat.mul_le_mul_right sz hk
  refine ⟨by rw [List.length_take, h.1]; omega, ?_⟩
  rcases Nat.eq_zero_or_pos k with h0 | h0
  · subst h0; exact .inl ⟨rfl, b, d, rfl⟩
  · obtain ⟨g, cap, cur, z, hv, rfl, _, hin⟩ := rowS_some h (by omega)
    injection hv with hv1 hv2 hv3
    subst hv1
    have h2 := cells_part hin (a := 0) (n := k * sz) (by rw [h.1]; omega)
    rw [List.drop_zero] at h2
    exact .inr ⟨g, 0, d, cur, e, z, rfl, rfl, h2⟩
theorem subS_from {sz : Nat} {e : TypeId} {b : Option Addr} {n c : Nat} {xs : List Value} {s : List Chunk} (h : RowS sz e (.slice b n c) n xs s) (k m d : Nat) (hk : k + m = n) : SubVS sz (.slice (cutAt b k c sz) m d) m (xs.drop (k * sz)) s := by
  have h1 : n * sz = k * sz + m * sz := by rw [← hk, Nat.add_mul]
  refine ⟨by rw [List.length_drop, h.1]; omega, ?_⟩
  rcases Nat.eq_zero_or_pos m with h0 | h0
  · subst h0; exact .inl ⟨rfl, _, d, rfl⟩
  · obtain ⟨g, cap, cur, z, hv, rfl, hle, hin⟩ := rowS_some h (by omega)
    injection hv with hv1 hv2 hv3
    subst hv1 hv3
    have h2 := cells_part hin (a := k * sz) (n := m * sz) (by rw [h.1]; omega)
    rw [List.take_of_length_le (by rw [List.length_drop, h.1]; omega)] at h2
    refine .inr ⟨g, 0 + k * sz, d, cur, e, z, ?_, rfl, h2⟩
    unfold cutAt
    rw [if_neg (by omega), Option.map_some, add_addr]
theorem subS_cut {sz : Nat} {b : Option Addr} {n c : Nat} {xs : List Value} {s : List Chunk} (h : SubVS sz (.slice b n c) n xs s) (k m d : Nat) (hk : k + m = n) (hc : n ≤ c) : SubVS sz (.slice (cutAt b k c sz) m d) m (xs.drop (k * sz)) s := by
  have h1 : n * sz = k * sz + m * sz := by rw [← hk, Nat.add_mul]
  refine ⟨by rw [List.length_drop, h.1]; omega, ?_⟩
  rcases Nat.eq_zero_or_pos m with h0 | h0
  · subst h0; exact .inl ⟨rfl, _, d, rfl⟩
  · obtain ⟨hl, ⟨h9, _⟩ | ⟨g, o, cap, cur, T, z, hv, rfl, hin⟩⟩ := h
    · omega
    · injection hv with hv1 hv2 hv3
      subst hv1 hv3
      have h2 := cells_part hin (a := k * sz) (n := m * sz) (by rw [hl]; omega)
      rw [List.take_of_length_le (by rw [List.length_drop, hl]; omega)] at h2
      refine .inr ⟨g, o + k * sz, d, cur, T, z, ?_, rfl, h2⟩
      unfold cutAt
      rw [if_neg (by omega), Option.map_some, add_addr]
section
variable {P : Program} {u : World} {env : Env} {H R R2 : Hp} {d : Option Nat} {ty : TypeId} {pos : String} {af : Array Edge} {g : Option (Nat × Bool)}
theorem w_append_subS {x y : Operand} {t e : TypeId} {i : TypeInfo} {z : Value} {by_ sz n k : Nat} {v v2 : Value} {xs ys : List Value} {s s2 : List Chunk}
    (ht : P.underlying t = some (.slice e)) (hi : P.info? e = some i) (hsz : i.size = sz) (hby : i.bytes = by_) (hzi : i.zero = some z) (hz1 : z.cells.size = sz)
    (hx : ∀ a, ev a env x = v) (hrow : RowS sz e v n xs s) (hy : ∀ a, ev a env y = v2) (hsub : SubVS sz v2 k ys s2) (hone : One s H R) (htwo : One s2 R R2) (h1 : ∀ u ∈ ys, u.oneCell' = true)
    (h63 : n + k ≤ maxLen) (hb : (n + k) * by_ ≤ 140737488355328) :
    OpW P u ⟨d, .call ⟨.builtin .append, #[x, y], #[t, t]⟩, ty, pos, af, g⟩ env H (fun v' H1 => ∃ s', RowS sz e v' (n + k) (xs ++ ys) s' ∧ H1 = s' :: R) (fun _ _ => False) := by
  obtain ⟨hl, ⟨rfl, b2, c2, rfl⟩ | ⟨gb, o, cap, cur, T, zz, rfl, rfl, hin⟩⟩ := hsub
  · have hy0 : ys = [] := List.eq_nil_of_length_eq_zero (by omega)
    subst hy0
    obtain ⟨b, c, rfl⟩ := hrow.form
    have hle : n ≤ c := by
      obtain ⟨_, ⟨hv, h0, _⟩ | ⟨_, _, _, _, hv, _, h2, _⟩⟩ := hrow
      · omega
      · injection hv with _ _ hv3; omega
    intro a w hsat K Kp hK _
    have hs1 : Sat u (s :: R) w := hsat.perm (by simpa using hone.perm)
    have hl0 : (Builtin.firstCells i.size 0 (.slice b2 0 c2)).run P w = .ok #[] w := by
      cases b2 with
      | none => simp [Builtin.firstCells]
      | some ad => simp [Builtin.firstCells, loadCells, loadCellsFrom]
    have hr : (Builtin.append_ #[t, t] ty #[.slice b n c, .slice b2 0 c2]).run P w = .ok (.slice b n c) w := by
      rw [hsz] at hl0
      cases b with
      | none => simp [Builtin.append_, run_underlying ht, Go.sizeOf, typeInfo, hi, hsz, Builtin.lenOf, hle, hl0]
      | some ad => simp [Builtin.append_, run_underlying ht, Go.sizeOf, typeInfo, hi, hsz, Builtin.lenOf, hle, hl0, storeCells]
    have hx' : (execOp (ev a env) ⟨d, .call ⟨.builtin .append, #[x, y], #[t, t]⟩, ty, pos, af, g⟩).run P w = .ok (.value (.slice b n c)) w := by
      simp only [x_call, resolve, invoke, builtin, List.map_toArray, List.map_cons, List.map_nil, hx a, hy a, Sem.run_bind, Sem.run_pure, Result.andThen_ok, hr]
    rw [hx']
    exact hK _ _ _ ⟨s, by rw [List.append_nil]; exact hrow, rfl⟩ hs1
  · rcases Nat.eq_zero_or_pos k with h0 | h0
    · subst h0
      have hy0 : ys = [] := List.eq_nil_of_length_eq_zero (by omega)
      subst hy0
      obtain ⟨b, c, rfl⟩ := hrow.form
      have hle : n ≤ c := by
        obtain ⟨_, ⟨hv, h0, _⟩ | ⟨_, _, _, _, hv, _, h2, _⟩⟩ := hrow
        · omega
        · injection hv with _ _ hv3; omega
      intro a w hsat K Kp hK _
      have hs1 : Sat u (s :: R) w := hsat.perm (by simpa using hone.perm)
      have hl0 : (Builtin.firstCells i.size 0 (.slice (some ⟨gb, o, none⟩) 0 cap)).run P w = .ok #[] w := by simp [Builtin.firstCells, loadCells, loadCellsFrom]
      have hr : (Builtin.append_ #[t, t] ty #[.slice b n c, .slice (some ⟨gb, o, none⟩) 0 cap]).run P w = .ok (.slice b n c) w := by
        rw [hsz] at hl0
        cases b with
        | none => simp [Builtin.append_, run_underlying ht, Go.sizeOf, typeInfo, hi, hsz, Builtin.lenOf, hle, hl0]
        | some ad => simp [Builtin.append_, run_underlying ht, Go.sizeOf, typeInfo, hi, hsz, Builtin.lenOf, hle, hl0, storeCells]
      have hx' : (execOp (ev a env) ⟨d, .call ⟨.builtin .append, #[x, y], #[t, t]⟩, ty, pos, af, g⟩).run P w = .ok (.value (.slice b n c)) w := by
        simp only [x_call, resolve, invoke, builtin, List.map_toArray, List.map_cons, List.map_nil, hx a, hy a, Sem.run_bind, Sem.run_pure, Result.andThen_ok, hr]
      rw [hx']
      exact hK _ _ _ ⟨s, by rw [List.append_nil]; exact hrow, rfl⟩ hs1
    · exact w_appendS ht hi hsz hby hzi hz1 hx hrow hy hone htwo.has hin hl h1 h0 h63 hb
end
end Gw
