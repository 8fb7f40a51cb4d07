/- Rows in memory. -/
import Derived.Test.YtkgmgmkbgnkdnaaGreatEz
import Derived.Test.YtkgmgmkbgnkdnaaGreatKs13
import Derived.Test.YtkgmgmkbgnkdnaaGreatEx17
import Derived.Test.YtkgmgmkbgnkdnaaGreatEx22
import Derived.Test.YtkgmgmkbgnkdnaaGreatEx25

namespace Go.Proofs.YtkgmgmkbgnkdnaaGreat
open Go.Proofs.Tryz
open Go Go.RowKit Gw
set_option linter.unusedVariables false
set_option linter.unusedSimpArgs false
set_option maxRecDepth 100000
attribute [local irreducible] Gw.At Gw.Nx Gw.Ops
def RowsU (M : List Chunk) (v : Value) (rs : List RowM) : Prop := ∃ p cap, v = .slice p rs.length cap ∧ (rs.length ≤ maxLen ∧ rs.length ≤ cap) ∧ ∀ (i : Nat) (x : RowM), rs[i]? = some x → ∃ g off cur T zz, p = some ⟨g, off, none⟩ ∧ (g, Obj.cells cur T zz) ∈ M ∧ off + i * 5 + 5 ≤ cur.size ∧ cur.extract (off + i * 5) (off + i * 5 + 5) = #[.int .i64 x.t, .int .i64 x.k, .int .i64 x.v.a, .int .i64 x.v.b, .int .i64 x.v.c]
theorem rowsU_row {e : TypeId} {v : Value} {rs : List RowM} {s : List Chunk} (h : RowS 5 e v rs.length (rowCells rs) s) (hn : rs.length ≤ maxLen) : RowsU s v rs := by
  obtain ⟨b, cap, rfl⟩ := h.form
  refine ⟨b, cap, rfl, ⟨hn, rowS_le h⟩, fun i x hx => ?_⟩
  obtain ⟨g, cap', cur, z, hv, rfl, hsz, hex⟩ := rowS_ext h i (List.getElem?_eq_some_iff.1 hx).1
  injection hv with hv1 hv2 hv3
  refine ⟨g, 0, cur, e, z, hv1, by simp, by omega, ?_⟩
  unfold rowCells at hex
  rw [flat_at _ 5 (fun _=>rfl) rs i x hx] at hex
  rw [Nat.zero_add]
  exact Array.toList_inj.1 hex
theorem RowsU.mono {M M' : List Chunk} {v : Value} {ls : List RowM} (h : RowsU M v ls) (hm : ∀ c ∈ M, c ∈ M') : RowsU M' v ls := by
  obtain ⟨p, cap, e, hl, hg⟩ := h
  refine ⟨p, cap, e, hl, fun i s hs => ?_⟩
  obtain ⟨g, off, cur, T, zz, e1, h1, h2⟩ := hg i s hs
  exact ⟨g, off, cur, T, zz, e1, hm _ h1, h2⟩
theorem rw_valueI (r : RowM) (c : Int) (hc : 0 ≤ c ∧ c ≤ 3) : DoesR Tryz.prog 55 #[.agg #[.int .i64 r.t, .int .i64 r.k, .int .i64 r.v.a, .int .i64 r.v.b, .int .i64 r.v.c], .int .i64 c] [] (.int .i64 (valL r c)) := fun u R w hs =>
  (value_calls r c hc w).mono (by
    rintro e w' ⟨rfl, q, o, rfl⟩
    exact .inl ⟨_, [], rfl, ⟨rfl, rfl⟩, sat_grow hs q _⟩)
theorem ext_cell {cur xs : Array Value} {a n : Nat} (h : cur.extract a (a + n) = xs) (hs : a + n ≤ cur.size) (j : Nat) (hj : j < n) : cur[a + j]? = xs[j]? := by
  rw [← h, Array.getElem?_extract, if_pos (by omega)]
theorem doesR_frame {P : Program} {f : FuncId} {args : Array Value} {v : Value} {M : List Chunk} (h : DoesR P f args [] v) : DoesR P f args [M] v := fun u R w hs =>
  Calls.mono (h u ([M] ++ R) w hs) fun e w' he => by
    rcases he with ⟨v', H', rfl, ⟨rfl, rfl⟩, h2⟩ | ⟨ch, H', rfl, h1, h2⟩
    · exact .inl ⟨_, [M], rfl, ⟨rfl, rfl⟩, h2⟩
    · exact h1.elim
theorem doesR_right {P : Program} {f : FuncId} {args : Array Value} {v : Value} {A B : List Chunk} (h : DoesR P f args [B] v) : DoesR P f args [A ++ B] v := fun u R w hs =>
  Calls.mono (h u ([A] ++ R) w (hs.perm (by simp only [List.flatten_append, List.flatten_cons, List.flatten_nil, List.append_nil]; rw [← List.append_assoc]; exact List.perm_append_comm.append_right _))) fun e w' he => by
    rcases he with ⟨v', H', rfl, ⟨rfl, rfl⟩, h2⟩ | ⟨ch, H', rfl, h1, h2⟩
    · refine .inl ⟨_, [A ++ B], rfl, ⟨rfl, rfl⟩, h2.perm ?_⟩
      simp only [List.flatten_append, List.flatten_cons, List.flatten_nil, List.append_nil]
      rw [← List.append_assoc]
      exact List.perm_append_comm.append_right _
    · exact h1.elim
theorem doesR_two {P : Program} {f : FuncId} {args : Array Value} {v : Value} {A B : List Chunk} (h : DoesR P f args [A ++ B] v) : DoesR P f args [A, B] v := by
  refine does_re h (by simp) ?_
  rintro r H' ⟨rfl, rfl⟩
  exact ⟨_, ⟨rfl, rfl⟩, by simp⟩
theorem take_snoc {α : Type} {xs : List α} {j : Nat} {x : α} (h : xs[j]? = some x) : xs.take (j + 1) = xs.take j ++ [x] := by rw [List.take_add_one, h]; rfl
theorem split_row {rs : List RowM} {k : Nat} {r : RowM} (h : rs[k]? = some r) : rowCells rs = rowCells (rs.take k) ++ (rowCells [r] ++ rowCells (rs.drop (k + 1))) := by
  rw [← rowCells_app, ← rowCells_app]
  congr 1
  obtain ⟨hk, rfl⟩ := List.getElem?_eq_some_iff.1 h
  rw [List.singleton_append, ← List.drop_eq_getElem_cons hk, List.take_append_drop]
theorem rowCells_at {rs : List RowM} {k : Nat} {r : RowM} (h : rs[k]? = some r) (j : Nat) (hj : j < 5) : (rowCells rs)[k * 5 + j]? = (rowCells [r])[j]? := by
  have hk := (List.getElem?_eq_some_iff.1 h).1
  have e : (rowCells (rs.take k)).length = k * 5 := by rw [rowCells_len, List.length_take]; omega
  rw [split_row h, List.getElem?_append_right (by omega), List.getElem?_append_left (by rw [e, rowCells_len]; simp; omega), e, Nat.add_sub_cancel_left]
theorem rowsU_cells {M : List Chunk} {p : Option Addr} {n cap : Nat} {rs : List RowM} (h : RowsU M (.slice p n cap) rs) : CellsM M p (rowCells rs) := by
  obtain ⟨p', cap', e, hl, hg⟩ := h
  injection e with e1 e2 e3
  subst e1
  intro j u hj
  have hjl := (List.getElem?_eq_some_iff.1 hj).1
  rw [rowCells_len] at hjl
  obtain ⟨x, hx⟩ : ∃ x, rs[j / 5]? = some x := ⟨_, List.getElem?_eq_getElem (by omega)⟩
  obtain ⟨g, off, cur, T, zz, rfl, hm, hsz, hex⟩ := hg (j / 5) x hx
  refine ⟨g, off, cur, T, zz, rfl, hm, ?_⟩
  have h1 := ext_cell hex hsz (j % 5) (by omega)
  have h2 := rowCells_at hx (j % 5) (by omega)
  rw [show j / 5 * 5 + j % 5 = j by omega, hj] at h2
  rw [show off + j = off + j / 5 * 5 + j % 5 by omega, h1, h2, ← Array.getElem?_toList]
  rfl

theorem rclone_spec {M : List Chunk} {v : Value} {rs : List RowM} (hv : RowsU M v rs) (hb : rs.length ≤ 1000000000000) : Does Tryz.prog 68 #[v] [M] (fun r H' => ∃ sr, RowS 5 62 r rs.length (rowCells rs) sr ∧ H' = [sr, M]) := by
 have hml : maxLen = 9223372036854775807 := rfl
 obtain ⟨p, cap, rfl, ⟨hl, hlc⟩, hg⟩ := id hv
 have hcm : CellsM M p (rowCells rs) := rowsU_cells hv
 refine spec_enter func68 rfl ntmps68 rfl ?_
 intro u R
 refine Zb [0] ?_
 refine Zq <| Zg <| Za Y <| Z0 <| Zx <| Zq <| Zq <| Zg <| Zm Y <| Zv (p_eql_slice_nil underlying47 Y Y) <| Z0 <| Zx ?_
 refine at_if_bool Y (fun hp => ?_) (fun hp => ?_)
 ·
  have hp0 : p = none := by cases p with
    | none => rfl
    | some x => cases hp
  have h0 : rs = [] := by
    cases rs with
    | nil => rfl
    | cons x l => obtain ⟨g, off, cur, T, zz, e9, _⟩ := hg 0 x rfl; rw [hp0] at e9; cases e9
  refine Zq <| at_nil ?_
  refine Zg <| Za Y <| Z0 <| Zx <| at_ret <| Zt ?_
  refine nx_end1 rfl results68 Y (by exact ⟨[], by rw [h0]; exact rowS_nil 5 _, rfl⟩)
 ·
  refine at_skip <| Zx <| Zq <| Zg <| Ze (w_buildSlice0 underlying47 sizeOf62) ?_
  rintro _ _ ⟨g1, rfl, rfl⟩
  refine Zm Y ?_
  refine Ze (w_appendM (by_ := 40) (sz := 5) underlying47 (rfl : Tryz.prog.info? 62 = some Tryz.t62) rfl rfl rfl rfl Y (rowS_new 5 62 g1 0 [] rfl (by decide)) Y (hcm) (by exact rowCells_len _) (by decide) (by repeat (first | exact One.here _ _ | apply One.there)) (by repeat (first | exact One.here _ _ | apply One.there)) (by exact rowCells_one _) (by omega) (by omega)) ?_
  rintro _ _ ⟨sa1, hra1, rfl⟩
  replace hra1 := rowS_eq hra1 (Nat.zero_add _) (List.nil_append _)
  refine Za Y <| Z0 <| Zx <| at_ret ?_
  refine nx_end1 rfl results68 Y (by exact ⟨_, hra1, rfl⟩)

theorem list_eq {α : Type} {a b : List α} (hl : a.length = b.length) (h : ∀ j, j < a.length → a[j]? = b[j]?) : a = b := by
  apply List.ext_getElem?
  intro i
  rcases Nat.lt_or_ge i a.length with h9 | h9
  · exact h i h9
  · rw [List.getElem?_eq_none h9, List.getElem?_eq_none (by omega)]
theorem eq_false {α : Type} [DecidableEq α] {a b : α} (h : ¬ a = b) : Value.bool false = Value.bool (decide (a = b)) := congrArg Value.bool (decide_eq_false h).symm
theorem eq_true' {α : Type} [DecidableEq α] {a b : α} (h : a = b) : Value.bool true = Value.bool (decide (a = b)) := congrArg Value.bool (decide_eq_true h).symm
theorem row_eq {a b : RowM} : RowEq a.t b.t a.k b.k a.v b.v ↔ a = b := by
  obtain ⟨t, k, v⟩ := a
  obtain ⟨t2, k2, v2⟩ := b
  simp [RowEq]

theorem eqr_spec {M : List Chunk} {va vb : Value} {a b : List RowM} (ha : RowsU M va a) (hb : RowsU M vb b) : DoesR Tryz.prog 33 #[va, vb] [M] (.bool (decide (a = b))) := by
 have hml : maxLen = 9223372036854775807 := rfl
 obtain ⟨pa, ca, rfl, hla, hga⟩ := ha
 obtain ⟨pb, cb, rfl, hlb, hgb⟩ := hb
 refine spec_enter func33 rfl ntmps33 rfl ?_
 intro u R
 refine Zb [0, 1] ?_
 refine Zq <| Zg <| Za Y <| Z0 <| Zx <| Zq <| Zq <| Zg <| Zm Y <| Zv (p_len_slice underlying47 Y) <| Zm Y <| Zv (p_len_slice underlying47 Y) <| Zv (p_neq_nat Y Y) <| Z0 <| Zx ?_
 refine at_if Y (fun hne => ?_) (fun hne => ?_)
 ·
  refine Zq <| Zg <| Za Y <| Z0 <| Zx <| at_ret <| Zt ?_
  refine nx_end1 rfl results33 Y (by exact ⟨eq_false (fun e => hne (by rw [e])), rfl⟩)
 ·
  have hle : a.length = b.length := by omega
  refine at_skip <| Zx <| Zq <| Zq <| Zg <| Zm Y <| Zv (p_len_slice underlying47 Y) <| Zm Y <| Z0 <| Zx <| at_block <| Zb [13, 0, 1, 12] ?_
  refine at_loopB (e0 := [(13, _)]) (H0 := _) (n := _) (fun m e H => ∃ (i : Nat), m = a.length - i ∧ (i ≤ a.length ∧ ∀ j, j < i → a[j]? = b[j]?) ∧ e = [(13, .int .i64 (i : Int))] ∧ H = []) (by exact ⟨0, rfl, ⟨Nat.zero_le _, by intro j hj; omega⟩, rfl, rfl⟩) (by repeat (first | exact Pull.nil _ | (apply Pull.cons; (focus (repeat (first | exact One.here _ _ | apply One.there)))))) ?_
  rintro _ _ _ ⟨i, rfl, ⟨hi, hall⟩, rfl, rfl⟩
  refine Zq <| Zg <| Zv (p_lss_nat Y Y) <| Z0 <| Zx <| Zq ?_
  refine at_if Y (fun hlt => ?_) (fun hlt => ?_)
  ·
   obtain ⟨x, hx⟩ : ∃ x, a[i]? = some x := ⟨_, List.getElem?_eq_getElem (by omega)⟩
   obtain ⟨y, hy⟩ : ∃ y, b[i]? = some y := ⟨_, List.getElem?_eq_getElem (by omega)⟩
   obtain ⟨g1, off1, cur1, T1, zz1, rfl, hm1, hsz1, hex1⟩ := hga i x hx
   obtain ⟨g2, off2, cur2, T2, zz2, rfl, hm2, hsz2, hex2⟩ := hgb i y hy
   refine at_skip <| Zx <| Zq <| at_block <| Zq <| Zg <| Zm Y <| Za Y <| Z0 <| Zx <| Zq <| at_draw (n := 9) (0 :: 0 :: 3 :: 7 :: 0 :: 0 :: 48 :: 112 :: 255 :: []) 0 (by kernel_rfl) (by kernel_rfl) rfl ?_
   refine Zi 1 0 rfl (p_move Y) <| Zi 3 1 rfl (p_move Y) ?_
   (refine lin_v (D' := 7) 2 (p_indexAddr_nat underlying47 sizeOf62 Y Y ?_) ?_; (focus (omega)))
   refine lin_rm (b := g1) (x := .cells cur1 T1 zz1) (D' := 15) 3 rfl rfl rfl (by simp [hm1]) (p_load_agg (cs := #[.int .i64 x.t, .int .i64 x.k, .int .i64 x.v.a, .int .i64 x.v.b, .int .i64 x.v.c]) isAgg62 sizeOf62 Y (by omega) hex1) ?_
   refine Zi 31 4 rfl (p_move Y) <| Zi 63 5 rfl (p_move Y) ?_
   (refine lin_v (D' := 127) 6 (p_indexAddr_nat underlying47 sizeOf62 Y Y ?_) ?_; (focus (omega)))
   refine lin_rm (b := g2) (x := .cells cur2 T2 zz2) (D' := 255) 7 rfl rfl rfl (by simp [hm2]) (p_load_agg (cs := #[.int .i64 y.t, .int .i64 y.k, .int .i64 y.v.a, .int .i64 y.v.b, .int .i64 y.v.c]) isAgg62 sizeOf62 Y (by omega) hex2) ?_
   refine Zi 511 8 rfl (p_neq_row (by kernel_rfl) underlying62 (by kernel_rfl) (by decide) (by decide) (by decide) underlying3 underlying38 isAgg3 sizeOf3 isAgg38 sizeOf38 Y Y) ?_
   refine lin_nil ?_
   refine Zx ?_
   refine at_if Y (fun hd => ?_) (fun hd => ?_)
   ·
    refine Zq <| Zg <| Za Y <| Z0 <| Zn [4] ?_
    refine Zx <| at_ret <| nx_block_ret <| Zt <| Zt <| nx_block_ret <| Zt ?_
    refine nx_end1 rfl results33 Y (by exact ⟨eq_false (fun e => by rw [e, hy] at hx; injection hx with hx; exact hd (row_eq.2 hx.symm)), rfl⟩)
   ·
    have heq : x = y := row_eq.1 (Classical.not_not.1 hd)
    refine at_skip <| nx_block_normal <| Zx <| Zg <| Ya (n := 1) Y Y <| Zm Y <| Z0 <| Zn [13, 0, 1, 12] ?_
    refine nx_againB (e' := [(13, _)]) (m := _) (H' := _) (by exact ⟨i + 1, rfl, ⟨by omega, fun j hj => by rcases Nat.lt_or_ge j i with h9 | h9; exact hall j h9; obtain rfl : j = i := (by omega); rw [hx, hy]; exact congrArg some heq⟩, rfl, rfl⟩)
  ·
   refine at_exit <| Zt <| Zt <| nx_block_exit <| Zx <| Zq <| Zg <| Za Y <| Z0 <| Zx <| at_ret ?_
   refine nx_end1 rfl results33 Y (by exact ⟨eq_true' (list_eq hle (fun j hj => hall j (by omega))), rfl⟩)

end Go.Proofs.YtkgmgmkbgnkdnaaGreat
