/- Rows encoded; the orders of a state, its summaries and its root. -/
/- All orders; the summaries; the root of a state. -/
import Derived.Test.YtjeepldonhgohaaGreatDoorEz
import Derived.Test.YtjeepldonhgohaaGreatDoorTr4
import Derived.Test.YtjeepldonhgohaaGreatDoorEx24

namespace Go.Proofs.YtjeepldonhgohaaGreatDoor
open Go.Proofs.Tryz
open Go Go.RowKit Gw
set_option linter.unusedVariables false
set_option linter.unusedSimpArgs false
set_option maxRecDepth 100000
attribute [local irreducible] Gw.At Gw.Nx Gw.Ops
/-- Rows that lie in memory. -/
def RowsU (M : List Chunk) (v : Value) (rs : List RowM) : Prop := ∃ p cap, v = .slice p rs.length cap ∧ (rs.length ≤ maxLen ∧ rs.length ≤ cap) ∧ ∀ (i : Nat) (x : RowM), rs[i]? = some x → ∃ g off cur T zz, p = some ⟨g, off, none⟩ ∧ (g, Obj.cells cur T zz) ∈ M ∧ off + i * 5 + 5 ≤ cur.size ∧ cur.extract (off + i * 5) (off + i * 5 + 5) = #[.int .i64 x.t, .int .i64 x.k, .int .i64 x.v.a, .int .i64 x.v.b, .int .i64 x.v.c]
theorem rowsU_row {e : TypeId} {v : Value} {rs : List RowM} {s : List Chunk} (h : RowS 5 e v rs.length (rowCells rs) s) (hn : rs.length ≤ maxLen) : RowsU s v rs := by
  obtain ⟨b, cap, rfl⟩ := h.form
  refine ⟨b, cap, rfl, ⟨hn, rowS_le h⟩, fun i x hx => ?_⟩
  obtain ⟨g, cap', cur, z, hv, rfl, hsz, hex⟩ := rowS_ext h i (List.getElem?_eq_some_iff.1 hx).1
  injection hv with hv1 hv2 hv3
  refine ⟨g, 0, cur, e, z, hv1, by simp, by omega, ?_⟩
  unfold rowCells at hex
  rw [flat_at _ 5 (fun _=>rfl) rs i x hx] at hex
  rw [Nat.zero_add]
  exact Array.toList_inj.1 hex
theorem RowsU.mono {M M' : List Chunk} {v : Value} {ls : List RowM} (h : RowsU M v ls) (hm : ∀ c ∈ M, c ∈ M') : RowsU M' v ls := by
  obtain ⟨p, cap, e, hl, hg⟩ := h
  refine ⟨p, cap, e, hl, fun i s hs => ?_⟩
  obtain ⟨g, off, cur, T, zz, e1, h1, h2⟩ := hg i s hs
  exact ⟨g, off, cur, T, zz, e1, hm _ h1, h2⟩
/-- A row, encoded. -/
def encRow (r : RowM) : Bs := putAll [r.t, r.k] ++ putAll [r.v.a, r.v.b, r.v.c]
theorem row_num {r : RowM} (h : r.ok) : (∀ n ∈ [r.t, r.k], -4611686018427387903 ≤ n ∧ n ≤ 4611686018427387903) ∧ (∀ n ∈ [r.v.a, r.v.b, r.v.c], -4611686018427387903 ≤ n ∧ n ≤ 4611686018427387903) := by
  obtain ⟨⟨h1, h2, h3⟩, h4, h5⟩ := h
  unfold inV at h1 h2 h3
  constructor
  · intro n hn
    simp only [List.mem_cons, List.not_mem_nil, or_false] at hn
    rcases hn with rfl | rfl <;> omega
  · intro n hn
    simp only [List.mem_cons, List.not_mem_nil, or_false] at hn
    rcases hn with rfl | rfl | rfl <;> omega
theorem encRow_len {r : RowM} (h : r.ok) : (encRow r).length ≤ 45 := by
  have h1 := putAll_len _ (row_num h).1
  have h2 := putAll_len _ (row_num h).2
  unfold encRow
  rw [List.length_append]
  simp only [List.length_cons, List.length_nil] at h1 h2
  omega
theorem ints_two (a b : Int) : IntsAt #[.int .i64 a, .int .i64 b] 0 [a, b] := by
  intro i n h
  rcases i with _ | _ | i
  · simp at h; subst h; rfl
  · simp at h; subst h; rfl
  · simp at h
theorem ints_v3 (r : RowM) : IntsAt #[.int .i64 r.t, .int .i64 r.k, .int .i64 r.v.a, .int .i64 r.v.b, .int .i64 r.v.c] 2 [r.v.a, r.v.b, r.v.c] := by
  intro i n h
  rcases i with _ | _ | _ | i
  · simp at h; subst h; rfl
  · simp at h; subst h; rfl
  · simp at h; subst h; rfl
  · simp at h

theorem rw_encode (r : RowM) (hr : r.ok) : DoesR Tryz.prog 62 #[.agg #[.int .i64 r.t, .int .i64 r.k, .int .i64 r.v.a, .int .i64 r.v.b, .int .i64 r.v.c]] [] (.tuple #[.string (str (encRow r)), .int .i64 0]) := by
 have hn := row_num hr
 have hl1 := putAll_len _ hn.1
 have hl2 := putAll_len _ hn.2
 simp only [List.length_cons, List.length_nil] at hl1 hl2
 refine spec_enter func62 rfl ntmps62 rfl ?_
 intro u R
 refine Zb [0] ?_
 refine Zq <| Zg <| Ze (w_box Y (cs := #[_, _, _, _, _]) rfl) ?_
 rintro _ _ ⟨xb, rfl, rfl⟩
 refine Za Y <| Za Y <| Z0 <| Zx <| Zq <| Zq <| Zg <| Zo (by repeat (first | exact Has.here _ | apply Has.there)) (p_load_agg (cs := #[_, _, _, _, _]) isAgg74 sizeOf74 Y (by first | decide | exact Nat.le_refl _ | (simp; done) | (simp; omega)) (by rfl)) ?_
 refine Zr [_] Y call89 Y rfl (rw_valid r) ?_
 rintro _ _ ⟨rfl, rfl⟩
 rw [decide_eq_true hr]
 refine Zv (p_not Y) <| Z0 <| Zx ?_
 refine at_if_bool Y (fun hv => ?_) (fun hv => ?_)
 ·
  cases hv
 ·
  refine at_skip <| Zx <| Zq <| at_draw (n := 12) (0 :: 1 :: 0 :: 4 :: 15 :: 31 :: 0 :: 64 :: 255 :: 511 :: 1023 :: 2047 :: []) 304 (by kernel_rfl) (by kernel_rfl) rfl ?_
  refine Zi 1 0 rfl (p_fieldAddr0 (off := 0) underlying74 rfl rfl sizeOf3 Y) <| Zj 3 1 rfl isAgg3 Y ?_
  refine Zi 7 2 rfl (p_fieldAddr0 (off := 1) underlying74 rfl rfl sizeOf3 Y) <| Zj 15 3 rfl isAgg3 Y ?_
  refine Zi 79 6 rfl (p_fieldAddr0 (off := 2) underlying74 rfl rfl sizeOf47 Y) <| Zi 207 7 rfl (p_slice_arr_all underlying47 sizeOf3 Y) <| Zz (l := [4]) ?_
  refine Zy 15 223 [3, 1] [false, false] [] rfl Y rfl rfl rfl rfl (w_buildSlice (vs := [_, _]) (cs := [_, _]) underlying61 sizeOf3 zeroValue3 Y rfl rfl rfl rfl rfl) ?hk_1 (fun _ _ h => h.elim) ?hl_1
  case hk_1 =>
   rintro _ _ ⟨gb, rfl, rfl⟩
   refine ⟨keep_nil, ?_⟩
   refine Zz (l := [5]) ?_
   refine Zy 31 255 [] [] [] rfl Y rfl rfl rfl rfl (Zu [_] Y call95 Y rfl (rw_put gb 0 2 _ _ _ [r.t, r.k] (ints_two r.t r.k) (by simp) hn.1)) ?hk_2 (fun _ _ h => h.elim) ?hl_2
   case hk_2 =>
    rintro _ _ ⟨rfl, rfl⟩
    refine ⟨keep_nil, ?_⟩
    refine Zz (l := [8]) ?_
    refine Zy 255 511 [] [] [] rfl Y rfl rfl rfl rfl (Zu [_] Y call95 Y rfl (rw_put xb 2 3 _ _ _ [r.v.a, r.v.b, r.v.c] (ints_v3 r) (by simp) hn.2)) ?hk_3 (fun _ _ h => h.elim) ?hl_3
    case hk_3 =>
     rintro _ _ ⟨rfl, rfl⟩
     refine ⟨keep_nil, ?_⟩
     (refine lin_v (D' := 1023) 9 (p_add_str Y Y ?_) ?_; (focus (rw [str_size, str_size]; omega)))
     refine Zi 2047 10 rfl (p_assign Y) <| Zi 4095 11 rfl (p_assign Y) <| lin_nil ?_
     refine Zn [2, 3] ?_
     refine Zx <| at_ret ?_
     refine nx_end2 rfl results62 Y Y (by exact ⟨by rw [str_app]; rfl, rfl⟩)
    case hl_3 =>
     exact each_nil
   case hl_2 =>
    exact each_nil
  case hl_1 =>
   exact each_nil

/-- The rows of a table, ordered by a column. -/
def ordL (rs : List RowM) (t : Int) (c : Nat) : List RowM := rangeL rs t c (-1000000000) 1000000000
theorem ordL_len {rs : List RowM} (hs : SortedR rs) (t : Int) (c : Nat) : (ordL rs t c).length ≤ rs.length := by
  unfold ordL
  rw [(rangeL_perm rs t c _ _).length_eq]
  exact List.length_filter_le _ _
theorem range_mem {rs : List RowM} {t : Int} {c : Nat} {lo hi : Int} {r : RowM} (h : r ∈ rangeL rs t c lo hi) : r ∈ rs := (List.mem_filter.1 ((rangeL_perm rs t c lo hi).mem_iff.1 h)).1
def encL (l : List RowM) : List Bs := l.map encRow
theorem encL_len (l : List RowM) : (encL l).length = l.length := List.length_map ..
theorem enc_snoc {l : List RowM} {i : Nat} {x : RowM} (h : l[i]? = some x) : (encL (l.take (i + 1))).map strV = (encL (l.take i)).map strV ++ [.string (str (encRow x))] := by
  rw [take_snoc h]; unfold encL; rw [List.map_append, List.map_append]; rfl
/-- An order: its rows and their encodings. -/
def OrdIs (l : List RowM) (vr ve : Value) (sr se : List Chunk) : Prop := RowS 5 74 vr (l).length (rowCells (l)) sr ∧ RowS 1 9 ve l.length ((encL l).map strV) se

theorem order_spec (v : Value) (p : Int) (rs : List RowM) (s : List Chunk) (hv : StIs v p rs s) (hs : SortedR rs) (hn : rs.length ≤ 2000) (hok : ∀ r ∈ rs, r.ok) (t : Int) (c : Nat) (hc : c ≤ 3) :
    Does Tryz.prog 38 #[v, .int .i64 t, .int .i64 (c : Int)] [s] (fun r H' => ∃ vr ve sr se, r = .agg #[vr, ve] ∧ OrdIs (ordL rs t c) vr ve sr se ∧ H' = [sr, se, s]) := by
 have hml : maxLen = 9223372036854775807 := rfl
 have hll := ordL_len hs t c
 refine spec_enter func38 rfl ntmps38 rfl ?_
 intro u R
 refine Zb [0, 1, 2] ?_
 refine Zq <| Zg <| Ze (w_alloc zeroValue81 (cs := #[_, _]) rfl) ?_
 rintro _ _ ⟨qb, rfl, rfl⟩
 refine Z0 <| Zx <| Zq <| Zg <| Zm Y <| Zm Y <| Zm Y <| Zc [_, _, _, _, _] Y call25 Y rfl (st_range v p rs s hv t c (-1000000000) 1000000000 hc) ?_
 rintro _ _ ⟨_, ⟨sr, hrr, rfl⟩, rfl⟩
 change RowS 5 74 _ (ordL rs t c).length (rowCells (ordL rs t c)) sr at hrr
 obtain ⟨qr, cr, rfl⟩ := hrr.form
 have hRU := rowsU_row hrr (by omega)
 obtain ⟨p9, cap9, e9, hol, hg⟩ := id hRU
 injection e9 with e91 e92 e93
 subst e91 e93
 refine Zv (p_build (vs := [(0, _)]) (cs := #[_, _]) Y (run_build_struct (pl := #[(0, 1), (1, 1)]) zeroValue81 underlying81 (fun _ => by kernel_rfl) rfl)) ?_
 refine Ze (w_alloc zeroValue81 (cs := #[_, _]) rfl) ?_
 rintro _ _ ⟨ob, rfl, rfl⟩
 refine Ze (w_store_agg sizeOf81 Y Y (by (simp [Value.oneCell', Value.cells]; done)) (by repeat (first | exact Upd.here _ | apply Upd.there)) (by exact (rfl : _ = (#[.slice qr (ordL rs t c).length cr, .slice none 0 0] : Array Value))) (by first | rfl | (simp; done)) (by first | omega | decide | (simp; done)) (by exact free_zero _)) ?_
 rintro _ _ ⟨rfl, rfl⟩
 refine Z0 <| Zx <| Zq <| Zq <| Zg <| Zh 0 underlying81 rfl rfl sizeOf33 Y <| Zl isAgg33 Y ?_
 refine Zv (p_len_slice underlying33 Y) <| Zm Y <| Z0 <| Zx <| at_block <| at_nil ?_
 refine Zb [20, 6, 7, 18, 19] ?_
 refine at_loopB (e0 := [(20, _)]) (H0 := _) (n := _) (fun m e H => ∃ (i : Nat) (ve : Value) (se : List Chunk), m = (ordL rs t c).length - i ∧ (i ≤ (ordL rs t c).length ∧ RowS 1 9 ve i ((encL ((ordL rs t c).take i)).map strV) se) ∧ e = [(20, .int .i64 (i : Int))] ∧ H = [[(ob, .cells #[.slice qr (ordL rs t c).length cr, ve] 81 (0, 0))], se]) (by exact ⟨0, .slice none 0 0, [], rfl, ⟨Nat.zero_le _, rowS_nil 1 _⟩, rfl, rfl⟩) (by repeat (first | exact Pull.nil _ | (apply Pull.cons; (focus (repeat (first | exact One.here _ _ | apply One.there)))))) ?_
 rintro _ _ _ ⟨i, ve, se, rfl, ⟨hi, hre⟩, rfl, rfl⟩
 obtain ⟨qe, ce, rfl⟩ := hre.form
 refine Zq <| Zg <| Zv (p_lss_nat Y Y) <| Z0 <| Zx <| Zq ?_
 refine at_if Y (fun hlt => ?_) (fun hlt => ?_)
 ·
  obtain ⟨x, hx⟩ : ∃ x, (ordL rs t c)[i]? = some x := ⟨_, List.getElem?_eq_getElem hlt⟩
  obtain ⟨g, off, cur, T, zz, rfl, hm9, hsz9, hex9⟩ := hg i x hx
  have hxo := hok x (range_mem (List.mem_of_getElem? hx))
  refine at_skip <| Zx <| Zq <| at_block <| Zq <| Zg ?_
  (refine op_v (p_indexAddr_nat underlying33 sizeOf74 Y Y ?_) ?_; (focus (first | omega | decide | (simp; done))))
  refine op_rm (cs := [(g, .cells cur T zz)]) (by simp [hm9]) (p_load_agg (cs := #[.int .i64 x.t, .int .i64 x.k, .int .i64 x.v.a, .int .i64 x.v.b, .int .i64 x.v.c]) isAgg74 sizeOf74 Y (by omega) hex9) rfl rfl ?_
  refine Ze (w_alloc zeroValue74 (cs := #[_, _, _, _, _]) rfl) ?_
  rintro _ _ ⟨xb, rfl, rfl⟩
  refine Ze (w_store_agg sizeOf74 Y Y (by (simp [Value.oneCell']; done)) (by repeat (first | exact Upd.here _ | apply Upd.there)) (by exact (rfl : _ = (#[.int .i64 x.t, .int .i64 x.k, .int .i64 x.v.a, .int .i64 x.v.b, .int .i64 x.v.c] : Array Value))) (by first | rfl | (simp; done)) (by first | omega | decide | (simp; done)) (by exact free_zero _)) ?_
  rintro _ _ ⟨rfl, rfl⟩
  refine Z0 <| Zx <| Zq <| Zg <| Zo (by repeat (first | exact Has.here _ | apply Has.there)) (p_load_agg (cs := #[_, _, _, _, _]) isAgg74 sizeOf74 Y (by first | decide | exact Nat.le_refl _ | (simp; done) | (simp; omega)) (by rfl)) ?_
  refine Zr [_] Y call62 Y rfl (rw_encode x hxo) ?_
  rintro _ _ ⟨rfl, rfl⟩
  refine Zm Y <| Zd Y rfl <| Zd Y rfl <| Za Y <| Za Y <| Z0 <| Zx <| Zg <| Zh 1 underlying81 rfl rfl sizeOf35 Y <| Zl isAgg35 Y ?_
  refine Zm Y <| Ze (w_buildSlice (vs := [_]) (cs := [_]) underlying35 sizeOf9 zeroValue9 Y rfl rfl rfl rfl rfl) ?_
  rintro _ _ ⟨b4, rfl, rfl⟩
  refine Ze (w_appendS (by_ := 16) (sz := 1) (news := [_]) underlying35 (rfl : Tryz.prog.info? 9 = some Tryz.t9) rfl rfl rfl rfl Y hre Y (by repeat (first | exact One.here _ _ | apply One.there)) (by repeat (first | exact Has.here _ | apply Has.there)) (by rfl) rfl (by simp [Value.oneCell']) (by decide) (by omega) (by omega)) ?_
  rintro _ _ ⟨sw5, hrw5, rfl⟩
  obtain ⟨gw5, cw5, rfl⟩ := hrw5.form
  refine Zh 1 underlying81 rfl rfl sizeOf35 Y <| Ze (Zs sizeOf35 Y Y rfl (hc := by exact (rfl : _ = (#[.slice _ (ordL rs t c).length cr, _] : Array Value))) (hi := by first | omega | decide | (simp; done))) ?_
  rintro _ _ ⟨rfl, rfl⟩
  refine Z0 <| Zn [6, 7, 18, 19, 20] ?_
  refine nx_block_normal <| Zx <| Zg <| Ya (n := 1) Y Y <| Zm Y <| Z0 <| Zn [20, 6, 7, 18, 19] ?_
  refine nx_againB (e' := [(20, _)]) (m := _) (H' := _) (by exact ⟨i + 1, _, _, rfl, ⟨by omega, rowS_eq hrw5 rfl (by rw [enc_snoc hx])⟩, rfl, rfl⟩)
 ·
  have ei : i = (ordL rs t c).length := by omega
  subst ei
  rw [List.take_length] at hre
  refine at_exit <| Zt <| Zt <| nx_block_exit <| Zx <| Zq <| Zg <| Zo (by repeat (first | exact Has.here _ | apply Has.there)) (p_load_agg (cs := #[_, _]) isAgg81 sizeOf81 Y (by first | omega | decide | (simp; done)) (by rfl)) ?_
  refine Ze (w_store_agg sizeOf81 Y Y (by (simp [Value.oneCell', Value.cells]; done)) (by repeat (first | exact Upd.here _ | apply Upd.there)) (by exact (rfl : _ = (#[.slice qr (ordL rs t c).length cr, .slice qe _ ce] : Array Value))) (by first | rfl | (simp; done)) (by first | omega | decide | (simp; done)) (by exact free_zero _)) ?_
  rintro _ _ ⟨rfl, rfl⟩
  refine Z0 <| Zx <| at_ret ?_
  refine nx_endc1 rfl results38 Y (by repeat (first | exact Has.here _ | apply Has.there)) (loadVar_agg isAgg81 sizeOf81 (by first | decide | exact Nat.le_refl _ | (simp; done) | (simp; omega)) (rfl)) (by exact ⟨.slice qr _ cr, .slice qe _ ce, sr, se, rfl, ⟨hrr, hre⟩, rfl⟩)

theorem order_specJ (v : Value) (p : Int) (rs : List RowM) (s : List Chunk) (hv : StIs v p rs s) (hs : SortedR rs) (hn : rs.length ≤ 2000) (hok : ∀ r ∈ rs, r.ok) (t : Int) (c : Nat) (hc : c ≤ 3) :
    Does Tryz.prog 38 #[v, .int .i64 t, .int .i64 (c : Int)] [s] (fun r H' => ∃ vr ve sr se, r = .agg #[vr, ve] ∧ OrdIs (ordL rs t c) vr ve sr se ∧ H' = [sr ++ se, s]) := by
  refine does_re (order_spec v p rs s hv hs hn hok t c hc) rfl ?_
  rintro r H' ⟨vr, ve, sr, se, rfl, h, rfl⟩
  exact ⟨_, ⟨vr, ve, sr, se, rfl, h, rfl⟩, by simp⟩
/-- All tables and columns. -/
def tcs : List (Nat × Nat) := (List.range 4).flatMap fun t => (List.range 4).map fun c => (t, c)
theorem tc_at : ∀ t, t < 4 → ∀ c, c < 4 → tcs[4 * t + c]? = some (t, c) := by decide
/-- The summary of an order. -/
def summ (rs : List RowM) (x : Nat × Nat) : Bs := encI ((ordL rs (x.1 : Int) x.2).length : Int) ++ rootT (encL (ordL rs (x.1 : Int) x.2))
def sumL (rs : List RowM) : List Bs := tcs.map (summ rs)
def rootS (rs : List RowM) : Bs := rootT (sumL rs)
def EncO (rs : List RowM) (x : Nat × Nat) (vs : Array Value) (sx : List Chunk) : Prop := ∃ vr ve sr se, vs = #[.agg #[vr, ve]] ∧ OrdIs (ordL rs (x.1 : Int) x.2) vr ve sr se ∧ sx = sr ++ se
theorem encL_ok {l : List RowM} (h : ∀ r ∈ l, r.ok) : ∀ s ∈ encL l, s.length ≤ 45 := by
  intro s hs
  obtain ⟨r, hr, rfl⟩ := List.mem_map.1 hs
  exact encRow_len (h r hr)
theorem summ_len {rs : List RowM} (hs : SortedR rs) (hn : rs.length ≤ 2000) (x : Nat × Nat) : (summ rs x).length ≤ 41 := by
  have h1 := ordL_len hs (x.1 : Int) x.2
  have h2 := encI_len ((ordL rs (x.1 : Int) x.2).length : Int) (by omega) (by omega)
  unfold summ
  rw [List.length_append, root_len]
  omega

end Go.Proofs.YtjeepldonhgohaaGreatDoor

namespace Go.Proofs.YtjeepldonhgohaaGreatDoor
open Go.Proofs.Tryz
open Go Go.RowKit Gw
set_option linter.unusedVariables false
set_option linter.unusedSimpArgs false
set_option maxRecDepth 100000
attribute [local irreducible] Gw.At Gw.Nx Gw.Ops
theorem orders_spec (q : Option Addr) : Does Tryz.prog 80 #[.pointer q] [] (fun r H' => ∃ b, r = .func (.func 118) #[] #[.pointer (some ⟨b, 0, none⟩)] ∧ H' = [[(b, .cells #[.pointer q] 25 (0, 0))]]) := by
 refine spec_enter func80 rfl ntmps80 rfl ?_
 intro u R
 refine Zb [0] ?_
 refine Zq <| Zg <| Ze (w_box Y (cs := #[_]) rfl) ?_
 rintro _ _ ⟨b, rfl, rfl⟩
 refine Za Y <| Z0 <| Zx <| Zq <| Zg <| Zv (p_makeFunc (vs := []) (us := [_]) Y Y) ?_
 refine Za Y <| Z0 <| Zx <| at_ret ?_
 refine nx_end1 rfl results80 Y (by exact ⟨_, rfl, rfl⟩)

theorem orders_iter (v : Value) (p : Int) (rs : List RowM) (s : List Chunk) (hv : StIs v p rs s) (hs : SortedR rs) (hn : rs.length ≤ 2000) (hok : ∀ r ∈ rs, r.ok) (b : Nat) :
    IterSpecE Tryz.prog 118 #[.pointer (some ⟨b, 0, none⟩)] [[(b, .cells #[v] 25 (0, 0))]] [s] (EncO rs) tcs := by
 have hml : maxLen = 9223372036854775807 := rfl
 intro l J hy s0 hJ
 refine spec_enter func118 rfl ntmps118 rfl ?_
 intro u R
 refine Zb [0, 1] ?_
 refine Zq <| Zg <| Zm Y <| Z0 <| Zx <| at_block <| Zb [5, 0, 1] ?_
 refine at_loopB (e0 := [(5, _)]) (H0 := _) (n := _) (fun m e H => ∃ (t : Nat) (s2 : List Chunk), m = 4 - t ∧ (t ≤ 4 ∧ J (tcs.take (4 * t)) s2) ∧ e = [(5, .int .i64 (t : Int))] ∧ H = [s2]) (by exact ⟨0, s0, rfl, ⟨by omega, hJ⟩, rfl, rfl⟩) (by repeat (first | exact Pull.nil _ | (apply Pull.cons; (focus (repeat (first | exact One.here _ _ | apply One.there)))))) ?_
 rintro _ _ _ ⟨t, s2, rfl, ⟨ht, hJ2⟩, rfl, rfl⟩
 refine Zq <| Zg <| Zv (p_lss_nat (n := 4) Y Y) <| Z0 <| Zx <| Zq ?_
 refine at_if Y (fun ht4 => ?_) (fun ht4 => ?_)
 ·
  refine at_skip <| Zx <| Zq <| at_block <| Zq <| Zg <| Zm Y <| Za Y <| Z0 <| Zx <| Zq <| Zg <| Zm Y <| Z0 <| Zx <| at_block <| Zb [8, 0, 1, 3, 5] ?_
  refine at_loopB (e0 := [(8, _)]) (H0 := _) (n := _) (fun m e H => ∃ (c : Nat) (s3 : List Chunk), m = 4 - c ∧ (c ≤ 4 ∧ J (tcs.take (4 * t + c)) s3) ∧ e = [(8, .int .i64 (c : Int))] ∧ H = [s3]) (by exact ⟨0, s2, rfl, ⟨by omega, hJ2⟩, rfl, rfl⟩) (by repeat (first | exact Pull.nil _ | (apply Pull.cons; (focus (repeat (first | exact One.here _ _ | apply One.there)))))) ?_
  rintro _ _ _ ⟨c, s3, rfl, ⟨hc, hJ3⟩, rfl, rfl⟩
  refine Zq <| Zg <| Zv (p_lss_nat (n := 4) Y Y) <| Z0 <| Zx <| Zq ?_
  refine at_if Y (fun hc4 => ?_) (fun hc4 => ?_)
  ·
   have hx := tc_at t ht4 c hc4
   refine at_skip <| Zx <| Zq <| at_block <| Zq <| Zg <| Zm Y <| Za Y <| Z0 <| Zx <| Zq <| Zg <| Zm Y <| Zl isAgg25 Y ?_
   refine Zm Y <| Zm Y <| Zc [_, _, _] Y call38 Y rfl (order_specJ v p rs s hv hs hn hok (t : Int) c (by omega)) ?_
   rintro _ _ ⟨_, ⟨vr, ve, sr, se, rfl, hO, rfl⟩, rfl⟩
   have hyk := hy _ _ _ s3 #[.agg #[vr, ve]] (sr ++ se) (split_at hx) hJ3 ⟨vr, ve, sr, se, rfl, hO, rfl⟩
   refine Ze (w_yield (vs := [_]) Y Y (hyk) (by repeat (first | exact Pull.nil _ | (apply Pull.cons; (focus (repeat (first | exact One.here _ _ | apply One.there))))))) ?_
   rintro _ _ ⟨_, ⟨s4, rfl, rfl, hJ4⟩, rfl⟩
   refine Zv (p_not Y) <| Z0 <| Zx ?_
   refine at_if_bool Y (fun hb => ?_) (fun hb => ?_)
   ·
    cases hb
   ·
    refine at_skip <| nx_block_normal <| Zx <| Zg <| Ya (n := 1) Y Y <| Zm Y <| Z0 <| Zn [8, 0, 1, 3, 5] ?_
    refine nx_againB (e' := [(8, _)]) (m := _) (H' := _) (by exact ⟨c + 1, s4, rfl, ⟨by omega, by rw [← Nat.add_assoc, take_snoc hx]; exact hJ4⟩, rfl, rfl⟩)
  ·
   refine at_exit <| Zt <| Zt <| nx_block_exit <| nx_block_normal <| Zx <| Zg <| Ya (n := 1) Y Y <| Zm Y <| Z0 <| Zn [5, 0, 1] ?_
   refine nx_againB (e' := [(5, _)]) (m := _) (H' := _) (by exact ⟨t + 1, s3, rfl, ⟨by omega, by rw [Nat.mul_add, Nat.mul_one]; have e4 : c = 4 := (by omega); subst e4; exact hJ3⟩, rfl, rfl⟩)
 ·
  have e4 : t = 4 := by omega
  subst e4
  refine at_exit <| Zt <| Zt <| nx_block_exit ?_
  refine nx_end0 rfl results118 (by exact ⟨s2, rfl, hJ2⟩)

theorem summ_spec (v : Value) (p : Int) (rs : List RowM) (s : List Chunk) (hv : StIs v p rs s) (hs : SortedR rs) (hn : rs.length ≤ 2000) (hok : ∀ r ∈ rs, r.ok) (Tg : TypeId) (zg : Nat × Nat) :
    Does Tryz.prog 34 #[v] [[(0, .cells (kTab.map u32v).toArray Tg zg)], s] (fun r H' => ∃ so, RowS 1 9 r 16 ((sumL rs).map strV) so ∧ H' = [so, [(0, .cells (kTab.map u32v).toArray Tg zg)], s]) := by
 have hml : maxLen = 9223372036854775807 := rfl
 obtain ⟨sp9, mb9, es9, ck9, lm9, rfl, hst9⟩ := id hv
 refine spec_enterM func34 rfl ntmps34 rfl ?_
 intro u R
 refine Zb [0] ?_
 refine Zq <| Zg <| Za Y <| Z0 <| Zx <| Zq <| Zg <| Ze (w_alloc zeroValue35 (cs := #[_]) rfl) ?_
 rintro _ _ ⟨ob, rfl, rfl⟩
 refine Z0 <| Zx <| Zq <| Zq <| Zg <| Zm Y <| Zc [_] Y call80 Y rfl (orders_spec _) ?_
 rintro _ _ ⟨_, ⟨bb, rfl, rfl⟩, rfl⟩
 refine Z0 <| Zx <| at_block <| Zb [3, 8] ?_
 refine at_nil ?_
 refine at_rangeAllE (H0 := _) (R := _) (I := (fun pre H => ∃ v2 s2, H = [[(ob, .cells #[v2] 35 (0, 0))], s2, [(0, .cells (kTab.map u32v).toArray Tg zg)]] ∧ RowS 1 9 v2 pre.length ((pre.map (summ rs)).map strV) s2)) (E := fun x vs sx e Hn => ∃ bx vr ve, vs = #[.agg #[vr, ve]] ∧ e = [(4, .pointer (some ⟨bx, 0, none⟩)), (9, .agg #[vr, ve])] ∧ Hn = [[(bx, .cells #[vr, ve] 81 (0, 0))]]) rfl Y call118 (orders_iter _ p rs s hv hs hn hok bb) (fun x vs sx h => by obtain ⟨vr, ve, sr, se, rfl, _⟩ := h; rfl) rfl (by repeat (first | exact Pull.nil _ | (apply Pull.cons; (focus (repeat (first | exact One.here _ _ | apply One.there)))))) (⟨_, [], rfl, rowS_nil 1 _⟩) ?ha_2 ?hbd_2 ?hk_2
 case ha_2 =>
  intro _ x vs sx _ _ hEnc
  obtain ⟨vr, ve, sr, se, rfl, hO, rfl⟩ := hEnc
  refine Zg <| Ze (w_alloc zeroValue81 (cs := #[_, _]) rfl) ?_
  rintro _ _ ⟨bx, rfl, rfl⟩
  refine Ze (w_store_agg sizeOf81 Y Y (by obtain ⟨q1, c1, rfl⟩ := hO.1.form; obtain ⟨q2, c2, rfl⟩ := hO.2.form; simp [Value.oneCell', Value.cells]) (by repeat (first | exact Upd.here _ | apply Upd.there)) (by exact (rfl : _ = (#[vr, ve] : Array Value))) (by first | rfl | (simp; done)) (by first | omega | decide | (simp; done)) (by exact free_zero _)) ?_
  rintro _ _ ⟨rfl, rfl⟩
  refine Z0 <| nx_isX (e := [(4, _), (9, _)]) (Hn := [[(_, _)]]) ?_
  exact ⟨_, _, _, rfl, rfl, rfl⟩
 case hbd_2 =>
  intro l pre x post u vs sx e9 Hn9 H1 R1 hxs hI hEnc hE9
  obtain ⟨vr, ve, sr, se, rfl, hO, rfl⟩ := hEnc
  obtain ⟨bx, vr2, ve2, hvv, rfl, rfl⟩ := hE9
  simp at hvv
  obtain ⟨rfl, rfl⟩ := hvv
  obtain ⟨v2, s2, rfl, hr2⟩ := hI
  obtain ⟨qe, ce, rfl⟩ := hO.2.form
  obtain ⟨q2, c2, rfl⟩ := hr2.form
  have hpl := congrArg List.length hxs
  rw [List.length_append, List.length_cons, show tcs.length = 16 from rfl] at hpl
  have hol := ordL_len hs (x.1 : Int) x.2
  have hou : StrsU (sr ++ se) (.slice qe (ordL rs (x.1 : Int) x.2).length ce) (encL (ordL rs (x.1 : Int) x.2)) := (strsU_row (rowS_eq hO.2 (encL_len _).symm rfl) (by rw [encL_len]; omega)).mono (fun c h => List.mem_append_right _ h)
  refine at_block <| Zq <| Zg <| Zh 1 underlying81 rfl rfl sizeOf35 Y <| Zl isAgg35 Y ?_
  refine Zv (p_len_slice underlying35 Y) <| Zr [_] Y call61 Y rfl (putInt_spec _ (by omega) (by omega)) ?_
  rintro _ _ ⟨rfl, rfl⟩
  refine Zm Y <| Zd Y rfl <| Zd Y rfl <| Za Y <| Za Y <| Z0 <| Zx <| at_draw (n := 9) (0 :: 0 :: 0 :: 4 :: 12 :: 30 :: 62 :: 127 :: 255 :: []) 464 (by kernel_rfl) (by kernel_rfl) rfl ?_
  refine Zj 1 0 rfl isAgg35 Y ?_
  refine Zi 3 1 rfl (p_move Y) <| Zi 7 2 rfl (p_fieldAddr0 (off := 1) underlying81 rfl rfl sizeOf35 Y) <| Zj 15 3 rfl isAgg35 Y ?_
  refine Zz (l := [4]) ?_
  refine Zy 12 31 [3, 0] [false, true] [(0, (_, _))] rfl Y rfl rfl rfl rfl (Zu [_] Y call22 Y rfl (root_spec hou (by rw [encL_len]; omega) (fun s h => by have := encL_ok (fun r hr => hok r (range_mem hr)) s h; omega) Tg zg)) ?hk_3 (fun _ _ h => h.elim) ?hl_3
  case hk_3 =>
   rintro _ _ ⟨rfl, rfl⟩
   refine ⟨Zk (keep_nil), ?_⟩
   (refine lin_v (D' := 63) 5 (p_add_str Y Y ?_) ?_; (focus (rw [str_size, str_size, root_len]; have := encI_len ((ordL rs (x.1 : Int) x.2).length : Int) (by omega) (by omega); omega)))
   refine Zz (l := [6]) ?_
   refine Zy 62 127 [0] [true] [(0, (_, _))] rfl Y rfl rfl rfl rfl (w_buildSlice (vs := [_]) (cs := [_]) underlying35 sizeOf9 zeroValue9 Y rfl rfl rfl rfl rfl) ?hk_4 (fun _ _ h => h.elim) ?hl_4
   case hk_4 =>
    rintro _ _ ⟨b3, rfl, rfl⟩
    refine ⟨Zk (keep_nil), ?_⟩
    refine Zz (l := [7]) ?_
    refine Zy 127 255 [0] [false] [] rfl Y rfl rfl rfl rfl (w_appendS (by_ := 16) (sz := 1) (news := [_]) underlying35 (rfl : Tryz.prog.info? 9 = some Tryz.t9) rfl rfl rfl rfl Y hr2 Y (by repeat (first | exact One.here _ _ | apply One.there)) (by repeat (first | exact Has.here _ | apply Has.there)) (by rfl) rfl (by simp [Value.oneCell']) (by decide) (by omega) (by omega)) ?hk_5 (fun _ _ h => h.elim) ?hl_5
    case hk_5 =>
     rintro _ _ ⟨sw5, hrw5, rfl⟩
     refine ⟨keep_nil, ?_⟩
     obtain ⟨gw5, cw5, rfl⟩ := hrw5.form
     refine Zz (l := [8]) ?_
     refine Zy 255 511 [] [] [] rfl Y rfl rfl rfl rfl (Zs sizeOf35 Y Y rfl (hi := by first | omega | decide | (simp; done))) ?hk_6 (fun _ _ h => h.elim) ?hl_6
     case hk_6 =>
      rintro _ _ ⟨rfl, rfl⟩
      refine ⟨keep_nil, ?_⟩
      refine lin_nil ?_
      refine Zn [] ?_
      refine nx_block_normal ?_
      refine nx_round (H' := _) rfl (by exact ⟨_, _, rfl, rowS_eq hrw5 (by simp) (by simp [summ, strV, str_app])⟩)
     case hl_6 =>
      exact each_nil
    case hl_5 =>
     exact each_nil
   case hl_4 =>
    exact each_nil
  case hl_3 =>
   exact each_nil
 case hk_2 =>
  intro D1 H2 hI2
  obtain ⟨v2, s2, rfl, hr2⟩ := hI2
  refine Zn [3] ?_
  refine nx_block_normal <| Zx <| Zq <| Zg <| Zl isAgg35 Y ?_
  refine Za Y <| Z0 <| Zx <| at_ret ?_
  refine nx_endM1 rfl (res1 results34 Y) (by repeat (first | exact One.here _ _ | apply One.there)) (by exact ⟨s2, hr2, rfl⟩)

end Go.Proofs.YtjeepldonhgohaaGreatDoor
