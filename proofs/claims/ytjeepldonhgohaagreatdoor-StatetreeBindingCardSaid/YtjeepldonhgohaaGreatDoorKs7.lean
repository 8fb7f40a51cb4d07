/- The store: At. -/
/- The reference of layer 4: At, Rows, SameRows. -/
/- The value of a column: of the reference of layer 3, of the program. -/
/- The reference of layer 4: Range. -/
import Derived.Test.YtjeepldonhgohaaGreatDoorEz
import Derived.Test.YtjeepldonhgohaaGreatDoorKs2
import Derived.Test.YtjeepldonhgohaaGreatDoorEx17
namespace Go.Proofs.YtjeepldonhgohaaGreatDoor
open Go.Proofs.Tryz
open Go Go.RowKit Gw
set_option linter.unusedVariables false
set_option linter.unusedSimpArgs false
set_option maxRecDepth 100000
attribute [local irreducible] Gw.At Gw.Nx Gw.Ops
theorem st_at (q : Option Addr) (cap : Nat) (l : List RecM) (M : List Chunk) (hRI : RecsIn M (.slice q l.length cap) l) (hlog : LogOk l) (hl : l.length ≤ 1000000) (k : Nat) (hk : k ≤ l.length) :
    Does Tryz.prog 30 #[.slice q l.length cap, .int .i64 (k : Int)] [M] (fun r H' => ∃ sp mb es ck lm, r = .tuple #[.pointer (some ⟨sp, 0, none⟩), .int .i64 0] ∧ MapM K2 es ck lm ∧ MapR lm (rowsOf (l.take k)) ∧ H' = [[(sp, .cells #[.map (some mb), .int .i64 (k : Int)] 154 (0, 0))], [(mb, .map es ck)], M]) := by
 have hml : maxLen = 9223372036854775807 := rfl
 obtain ⟨p9, cap9, e9, ⟨hol, hlc⟩, hg⟩ := id hRI
 injection e9 with e91 e92 e93
 subst e91 e93
 refine spec_enter func30 rfl ntmps30 rfl ?_
 intro u R
 refine Zb [0, 1] ?_
 refine Zq <| Zg <| Za Y <| Za Y <| Z0 <| Zx <| Zq <| Zq <| Zg <| Zm Y <| Zv (p_lss_nat (n := 0) Y Y) <| Zm Y ?_
 refine ops_split (t := 11) Y rfl (fun h1 => ?_) (fun h1 => ?_)
 ·
  exfalso; (cases h1; done)
 ·
  refine Zf Y Y <| Zf Y Y <| Yg (p_len_slice underlying69 Y) <| Yg (p_gtr_nat Y Y) <| Zv (p_pick_f Y Y) <| Z0 <| Zx ?_
  refine at_if Y (fun h2 => ?_) (fun h2 => ?_)
  ·
   exfalso; omega
  ·
   refine at_skip <| Zx <| Zq <| Zg <| Zc [] Y call72 Y rfl (st_new) ?_
   rintro _ _ ⟨_, ⟨sp, mb, rfl, rfl⟩, rfl⟩
   refine Za Y <| Z0 <| Zx <| Zq <| Zq <| Zg <| Zm Y <| Zm Y ?_
   (refine op_v (p_slice_slice_to underlying69 sizeOf68 Y Y ?_) ?_; (focus (first | omega | decide | (simp; done))))
   refine Zv (p_len_slice underlying69 Y) <| Zm Y <| Z0 <| Zn [6, 20, 21, 22] ?_
   refine Zx <| at_block <| Zb [22, 6, 20, 21] ?_
   refine at_loopB (e0 := [(22, _)]) (H0 := _) (n := _) (fun m e H => ∃ (i : Nat) (es : Array MapEntry) (ck : Nat) (lm : List ((Int × Int) × Value)), m = k - i ∧ (i ≤ k ∧ MapM K2 es ck lm ∧ MapR lm (rowsOf (l.take i))) ∧ e = [(22, .int .i64 (i : Int))] ∧ H = [[(sp, .cells #[.map (some mb), .int .i64 (i : Int)] 154 (0, 0))], [(mb, .map es ck)]]) (by exact ⟨0, #[], 0, [], rfl, ⟨Nat.zero_le _, mapM_new _, by rw [List.take_zero]; exact mapR_nil⟩, rfl, rfl⟩) (by repeat (first | exact Pull.nil _ | (apply Pull.cons; (focus (repeat (first | exact One.here _ _ | apply One.there)))))) ?_
   rintro _ _ _ ⟨i, es, ck, lm, rfl, ⟨hi, hm, hR⟩, rfl, rfl⟩
   refine Zq <| Zg <| Zv (p_lss_nat Y Y) <| Z0 <| Zx <| Zq ?_
   refine at_if Y (fun hlt => ?_) (fun hlt => ?_)
   ·
    obtain ⟨r, hr⟩ : ∃ r, l[i]? = some r := ⟨_, List.getElem?_eq_getElem (by omega)⟩
    obtain ⟨hOr, g, off, cur, T, zz, rfl, hm9, hsz, hex⟩ := hg i r hr
    obtain ⟨hA, h3⟩ := hlog i r hr
    have hrp := hA.pos
    obtain ⟨hso, hle⟩ := hlog.rows i (by omega)
    refine at_skip <| Zx <| Zq <| at_block <| Zq <| Zg ?_
    (refine op_v (p_indexAddr_nat underlying69 sizeOf68 Y Y ?_) ?_; (focus (first | omega | decide | (simp; done))))
    refine op_rm (cs := [(g, .cells cur T zz)]) (by simp [hm9]) (p_load_agg (cs := #[.int .i64 r.p, .slice r.q r.cs.length r.cap]) isAgg68 sizeOf68 Y (by omega) hex) rfl rfl ?_
    refine Ze (w_alloc zeroValue68 (cs := #[_, _]) rfl) ?_
    rintro _ _ ⟨rb, rfl, rfl⟩
    refine Ze (w_store_agg sizeOf68 Y Y (by (simp [Value.oneCell']; done)) (by repeat (first | exact Upd.here _ | apply Upd.there)) (by exact (rfl : _ = (#[.int .i64 r.p, .slice r.q r.cs.length r.cap] : Array Value))) (by first | rfl | (simp; done)) (by first | omega | decide | (simp; done)) (by exact free_zero _)) ?_
    rintro _ _ ⟨rfl, rfl⟩
    refine Z0 <| Zx <| Zq <| Zg <| Zm Y <| Zo (by repeat (first | exact Has.here _ | apply Has.there)) (p_load_agg (cs := #[_, _]) isAgg68 sizeOf68 Y (by first | omega | decide | (simp; done)) (by rfl)) ?_
    refine Zc [_, _] Y call73 Y rfl (st_apply sp mb (i : Int) r.p es ck lm (rowsOf (l.take i)) M r.q r.cap r.cs hm hR hOr hso hle hA) ?_
    rintro _ _ ⟨_, ⟨rfl, es2, ck2, lm2, hm2, hR2, rfl⟩, rfl⟩
    have hR3 : MapR lm2 (rowsOf (l.take (i + 1))) := by rw [List.take_add_one, hr]; show MapR lm2 (rowsOf (l.take i ++ [r])); rw [rowsOf_snoc]; exact hR2
    rw [show r.p = ((i + 1 : Nat) : Int) by rw [hrp]; rfl]
    refine Zv (p_neq_nat (n := 0) Y Y) <| Z0 <| Zx ?_
    refine at_if Y (fun h4 => ?_) (fun h4 => ?_)
    ·
     exfalso; exact h4 rfl
    ·
     refine at_skip <| nx_block_normal <| Zx <| Zg <| Ya (n := 1) Y Y <| Zm Y <| Z0 <| Zn [22, 6, 20, 21] ?_
     refine nx_againB (e' := [(22, _)]) (m := _) (H' := _) (by exact ⟨i + 1, es2, ck2, lm2, rfl, ⟨by omega, hm2, hR3⟩, rfl, rfl⟩)
   ·
    have ei : i = k := by omega
    subst ei
    refine at_exit <| Zt <| Zt <| nx_block_exit <| Zx <| Zq <| Zg <| Zm Y <| Za Y <| Za Y <| Z0 <| Zx <| at_ret ?_
    refine nx_end2 rfl results30 Y Y (by exact ⟨sp, mb, es, ck, lm, rfl, hm, hR, rfl⟩)

end Go.Proofs.YtjeepldonhgohaaGreatDoor

namespace Go.Proofs.YtjeepldonhgohaaGreatDoor
open Go.Proofs.Tryz
open Go Go.RowKit Gw
set_option linter.unusedVariables false
set_option linter.unusedSimpArgs false
set_option maxRecDepth 100000
attribute [local irreducible] Gw.At Gw.Nx Gw.Ops
theorem r4_apply_ok (sp : Nat) (p rp : Int) (v : Value) (rs : List RowM) (sv M : List Chunk) (q : Option Addr) (capc : Nat) (cs : List Chg) (hrow : RowS 5 74 v rs.length (rowCells rs) sv) (hO : ChgsIn M (.slice q cs.length capc) cs) (hs : SortedR rs) (hn : rs.length ≤ 2000) (hp : 0 ≤ p ∧ p ≤ 10000) (hA : AppOk rs p rp cs) :
    Does Tryz.prog 79 #[.pointer (some ⟨sp, 0, none⟩), .agg #[.int .i64 rp, .slice q cs.length capc]] [[(sp, .cells #[v, .int .i64 p] 121 (0, 0))], sv, M] (fun r H' => r = .int .i64 0 ∧ ∃ v' sv', RowS 5 74 v' (putAllR rs cs).length (rowCells (putAllR rs cs)) sv' ∧ H' = [[(sp, .cells #[v', .int .i64 rp] 121 (0, 0))], sv', M]) :=
  DoesE.mono (r4_apply sp p rp v rs sv M q capc cs hrow hO hs hn hp) (fun r H' h => by
    rcases h with ⟨_, v', sv', rfl, h, rfl⟩ | ⟨h, _⟩
    · exact ⟨rfl, v', sv', h, rfl⟩
    · exact absurd hA h) (fun _ _ h => h)

theorem r4_at (q : Option Addr) (cap : Nat) (l : List RecM) (M : List Chunk) (hRI : RecsIn M (.slice q l.length cap) l) (hlog : LogOk l) (hl : l.length ≤ 9000) (k : Nat) (hk : k ≤ l.length) :
    Does Tryz.prog 33 #[.slice q l.length cap, .int .i64 (k : Int)] [M] (fun r H' => ∃ sp w sv, r = .tuple #[.pointer (some ⟨sp, 0, none⟩), .int .i64 0] ∧ RowS 5 74 w (rowsOf (l.take k)).length (rowCells (rowsOf (l.take k))) sv ∧ H' = [[(sp, .cells #[w, .int .i64 (k : Int)] 121 (0, 0))], sv, M]) := by
 have hml : maxLen = 9223372036854775807 := rfl
 obtain ⟨p9, cap9, e9, ⟨hol, hlc⟩, hg⟩ := id hRI
 injection e9 with e91 e92 e93
 subst e91 e93
 refine spec_enter func33 rfl ntmps33 rfl ?_
 intro u R
 refine Zb [0, 1] ?_
 refine Zq <| Zg <| Za Y <| Za Y <| Z0 <| Zx <| Zq <| Zq <| Zg <| Zm Y <| Zv (p_lss_nat (n := 0) Y Y) <| Zm Y ?_
 refine ops_split (t := 11) Y rfl (fun h1 => ?_) (fun h1 => ?_)
 ·
  exfalso; (cases h1; done)
 ·
  refine Zf Y Y <| Zf Y Y <| Yg (p_len_slice underlying69 Y) <| Yg (p_gtr_nat Y Y) <| Zv (p_pick_f Y Y) <| Z0 <| Zx ?_
  refine at_if Y (fun h2 => ?_) (fun h2 => ?_)
  ·
   exfalso; omega
  ·
   refine at_skip <| Zx <| Zq <| Zg <| Zc [] Y call77 Y rfl (r4_new) ?_
   rintro _ _ ⟨_, ⟨sp, rfl, rfl⟩, rfl⟩
   refine Za Y <| Z0 <| Zx <| Zq <| Zq <| Zg <| Za Y <| Z0 <| Zn [0, 1, 6, 7] ?_
   refine Zx <| at_block <| at_nil ?_
   refine Zb [7, 0, 1, 6] ?_
   refine at_loopB (e0 := [(7, _)]) (H0 := _) (n := _) (fun m e H => ∃ (i : Nat) (w : Value) (sv : List Chunk), m = k - i ∧ (i ≤ k ∧ RowS 5 74 w (rowsOf (l.take i)).length (rowCells (rowsOf (l.take i))) sv) ∧ e = [(7, .int .i64 (i : Int))] ∧ H = [[(sp, .cells #[w, .int .i64 (i : Int)] 121 (0, 0))], sv]) (by exact ⟨0, .slice none 0 0, [], rfl, ⟨Nat.zero_le _, by rw [List.take_zero]; exact rowS_nil 5 _⟩, rfl, rfl⟩) (by repeat (first | exact Pull.nil _ | (apply Pull.cons; (focus (repeat (first | exact One.here _ _ | apply One.there)))))) ?_
   rintro _ _ _ ⟨i, w, sv, rfl, ⟨hi, hrw⟩, rfl, rfl⟩
   refine Zq <| Zq <| Zg <| Zm Y <| Zm Y <| Zv (p_lss_nat Y Y) <| Z0 <| Zx ?_
   refine at_if Y (fun hlt => ?_) (fun hlt => ?_)
   ·
    obtain ⟨r, hr⟩ : ∃ r, l[i]? = some r := ⟨_, List.getElem?_eq_getElem (by omega)⟩
    obtain ⟨hOr, g, off, cur, T, zz, rfl, hm9, hsz, hex⟩ := hg i r hr
    obtain ⟨hA, h3⟩ := hlog i r hr
    have hrp := hA.pos
    obtain ⟨hso, hle⟩ := hlog.rows i (by omega)
    refine at_skip <| Zx <| Zq <| at_block <| Zq <| Zg <| Zm Y <| Zm Y <| Zm Y ?_
    (refine op_v (p_indexAddr_nat underlying69 sizeOf68 Y Y ?_) ?_; (focus (omega)))
    refine op_rm (cs := [(g, .cells cur T zz)]) (by simp [hm9]) (p_load_agg (cs := #[.int .i64 r.p, .slice r.q r.cs.length r.cap]) isAgg68 sizeOf68 Y (by omega) hex) rfl rfl ?_
    refine Zc [_, _] Y call79 Y rfl (r4_apply_ok sp (i : Int) r.p w (rowsOf (l.take i)) sv M r.q r.cap r.cs hrw hOr hso hle (by omega) hA) ?_
    rintro _ _ ⟨_, ⟨rfl, v2, sv2, hrw2, rfl⟩, rfl⟩
    have hrw3 : RowS 5 74 v2 (rowsOf (l.take (i + 1))).length (rowCells (rowsOf (l.take (i + 1)))) sv2 := by rw [List.take_add_one, hr]; show RowS 5 74 v2 (rowsOf (l.take i ++ [r])).length (rowCells (rowsOf (l.take i ++ [r]))) sv2; rw [rowsOf_snoc]; exact hrw2
    rw [show r.p = ((i + 1 : Nat) : Int) by rw [hrp]; rfl]
    refine Za Y <| Z0 <| Zx <| Zq <| Zg <| Zm Y <| Zv (p_neq_nat (n := 0) Y Y) <| Z0 <| Zx ?_
    refine at_if Y (fun h4 => ?_) (fun h4 => ?_)
    ·
     exfalso; exact h4 rfl
    ·
     refine at_skip <| nx_block_normal <| Zx <| Zg <| Zm Y <| Ya (n := 1) Y Y <| Za Y <| Z0 <| Zn [7, 0, 1, 6] ?_
     refine nx_againB (e' := [(7, _)]) (m := _) (H' := _) (by exact ⟨i + 1, v2, sv2, rfl, ⟨by omega, hrw3⟩, rfl, rfl⟩)
   ·
    have ei : i = k := by omega
    subst ei
    refine at_exit <| Zt <| Zt <| nx_block_exit <| Zx <| Zq <| Zg <| Zm Y <| Za Y <| Za Y <| Z0 <| Zx <| at_ret ?_
    refine nx_end2 rfl results33 Y Y (by exact ⟨sp, w, sv, rfl, hrw, rfl⟩)

end Go.Proofs.YtjeepldonhgohaaGreatDoor

namespace Go.Proofs.YtjeepldonhgohaaGreatDoor
open Go.Proofs.Tryz
open Go Go.RowKit Gw
set_option linter.unusedVariables false
set_option linter.unusedSimpArgs false
set_option maxRecDepth 100000
attribute [local irreducible] Gw.At Gw.Nx Gw.Ops
def valN (r : RowM) (c : Nat) : Int := if c = 0 then r.k else if c = 1 then r.v.a else if c = 2 then r.v.b else r.v.c
theorem valN_at {r : RowM} {c : Nat} (h1 : 1 ≤ c) (h3 : c ≤ 3) : (#[.int .i64 r.t, .int .i64 r.k, .int .i64 r.v.a, .int .i64 r.v.b, .int .i64 r.v.c] : Array Value)[0 + 2 + (c - 1)]? = some (.int .i64 (valN r c)) := by
  rcases (by omega : c = 1 ∨ c = 2 ∨ c = 3) with rfl | rfl | rfl <;> rfl

theorem r3_value (r : RowM) (c : Nat) (hc : c ≤ 3) : DoesR Tryz.prog 48 #[.agg #[.int .i64 r.t, .int .i64 r.k, .int .i64 r.v.a, .int .i64 r.v.b, .int .i64 r.v.c], .int .i64 (c : Int)] [] (.int .i64 (valN r c)) := by
 refine spec_enter func48 rfl ntmps48 rfl ?_
 intro u R
 refine Zb [0, 1] ?_
 refine Zq <| Zg <| Ze (w_box Y (cs := #[_, _, _, _, _]) rfl) ?_
 rintro _ _ ⟨b1, rfl, rfl⟩
 refine Za Y <| Z0 <| Zx <| Zq <| Zq <| Zg <| Zm Y <| Zv (p_eql_nat (n := 0) Y Y) <| Z0 <| Zx ?_
 refine at_if Y (fun h0 => ?_) (fun h0 => ?_)
 ·
  refine Zq <| Zg <| Zh 1 underlying74 rfl rfl sizeOf3 Y <| Zl isAgg3 Y ?_
  refine Za Y <| Z0 <| Zx <| at_ret <| Zt ?_
  refine nx_end1 rfl results48 Y (by exact ⟨by unfold valN; rw [if_pos (by omega)], rfl⟩)
 ·
  refine at_skip <| Zx <| Zq <| Zq <| Zg <| Zm Y <| Zr [_, _, _] Y call87 Y rfl (r3_within (c : Int) 1 3) ?_
  rintro _ _ ⟨rfl, rfl⟩
  refine Z0 <| Zx ?_
  refine at_if Y (fun h1 => ?_) (fun h1 => ?_)
  ·
   refine Zq <| Zg <| Zm Y <| Yb (n := 1) Y Y <| Zh 2 underlying74 rfl rfl sizeOf47 Y ?_
   (refine op_v (p_indexAddr_arr underlying47 sizeOf3 Y Y ?_) ?_; (focus (omega)))
   refine Zo (by repeat (first | exact Has.here _ | apply Has.there)) (p_load (v := .int .i64 (valN r c)) isAgg3 Y (by simpa using valN_at (r := r) (c := c) (by omega) hc)) ?_
   refine Za Y <| Z0 <| Zx <| at_ret <| Zt ?_
   refine nx_end1 rfl results48 Y (by exact ⟨rfl, rfl⟩)
  ·
   refine at_skip <| Zx <| Zq <| Zg <| Za Y <| Z0 <| Zx <| at_ret ?_
   refine nx_end1 rfl results48 Y (by exfalso; omega)

end Go.Proofs.YtjeepldonhgohaaGreatDoor


namespace Go.Proofs.YtjeepldonhgohaaGreatDoor
open Go.Proofs.Tryz
open Go Go.RowKit Gw
set_option linter.unusedVariables false
set_option linter.unusedSimpArgs false
set_option maxRecDepth 100000
attribute [local irreducible] Gw.At Gw.Nx Gw.Ops
/-- Where a row with the value v is put behind those whose value is not greater. -/
def placeV (c : Nat) (out : List RowM) (v : Int) : Nat := (out.reverse.dropWhile (fun r => decide (v < valN r c))).length
theorem placeV_of {c : Nat} {out : List RowM} {v : Int} {k : Nat} (hk : k ≤ out.length) (h1 : ∀ (j : Nat) (r : RowM), k ≤ j → out[j]? = some r → v < valN r c) (h2 : k = 0 ∨ ∃ r, out[k - 1]? = some r ∧ valN r c ≤ v) : placeV c out v = k := by
  unfold placeV
  have e : out.reverse = (out.drop k).reverse ++ (out.take k).reverse := by rw [← List.reverse_append, List.take_append_drop]
  rw [e, List.dropWhile_append_of_pos]
  · rcases h2 with rfl | ⟨r, hr, hv⟩
    · simp
    · have hlt := (List.getElem?_eq_some_iff.1 hr).1
      rcases Nat.eq_zero_or_pos k with rfl | hp
      · simp
      · obtain ⟨m, rfl⟩ : ∃ m, k = m + 1 := ⟨k - 1, by omega⟩
        rw [Nat.add_sub_cancel] at hr
        rw [List.take_add_one, hr]
        simp only [Option.toList, List.reverse_append, List.reverse_cons, List.reverse_nil, List.nil_append, List.cons_append]
        rw [List.dropWhile_cons, if_neg (by simp; omega)]
        simp only [List.length_cons, List.length_reverse, List.length_take]
        omega
  · intro r hr
    rw [List.mem_reverse] at hr
    obtain ⟨j, hj⟩ := List.getElem?_of_mem hr
    rw [List.getElem?_drop] at hj
    simpa using h1 (k + j) r (by omega) hj
def insV (c : Nat) (out : List RowM) (x : RowM) : List RowM := out.take (placeV c out (valN x c)) ++ [x] ++ out.drop (placeV c out (valN x c))
def inR (t : Int) (c : Nat) (lo hi : Int) (r : RowM) : Bool := decide (r.t = t ∧ lo ≤ valN r c ∧ valN r c ≤ hi)
/-- The rows of a range, ordered by the value of the column. -/
def rangeL (rs : List RowM) (t : Int) (c : Nat) (lo hi : Int) : List RowM := (rs.filter (inR t c lo hi)).foldl (insV c) []
theorem rangeL_in {rs : List RowM} {t : Int} {c : Nat} {lo hi : Int} {i : Nat} {x : RowM} (hx : rs[i]? = some x) (h : x.t = t ∧ lo ≤ valN x c ∧ valN x c ≤ hi) : rangeL (rs.take (i + 1)) t c lo hi = insV c (rangeL (rs.take i) t c lo hi) x := by
  have h9 : inR t c lo hi x = true := decide_eq_true h
  unfold rangeL
  rw [List.take_add_one, hx]
  simp [List.filter_append, h9, List.foldl_append]
theorem rangeL_out {rs : List RowM} {t : Int} {c : Nat} {lo hi : Int} {i : Nat} {x : RowM} (hx : rs[i]? = some x) (h : ¬ (x.t = t ∧ lo ≤ valN x c ∧ valN x c ≤ hi)) : rangeL (rs.take (i + 1)) t c lo hi = rangeL (rs.take i) t c lo hi := by
  have h9 : inR t c lo hi x = false := decide_eq_false h
  unfold rangeL
  rw [List.take_add_one, hx]
  simp [List.filter_append, h9]

theorem r4_range (sp : Nat) (p : Int) (v : Value) (rs : List RowM) (sv : List Chunk) (t : Int) (c : Nat) (lo hi : Int) (hrow : RowS 5 74 v rs.length (rowCells rs) sv) (hn : rs.length ≤ 2000) (hc : c ≤ 3) :
    Does Tryz.prog 86 #[.pointer (some ⟨sp, 0, none⟩), .int .i64 t, .int .i64 (c : Int), .int .i64 lo, .int .i64 hi] [[(sp, .cells #[v, .int .i64 p] 121 (0, 0))], sv] (fun r H' => ∃ so, RowS 5 74 r (rangeL rs t c lo hi).length (rowCells (rangeL rs t c lo hi)) so ∧ H' = [so, [(sp, .cells #[v, .int .i64 p] 121 (0, 0))], sv]) := by
 have hml : maxLen = 9223372036854775807 := rfl
 obtain ⟨qv, capv, rfl⟩ := hrow.form
 obtain ⟨p9, cap9, e9, hol, hg⟩ := rowsIn_of hrow (by omega)
 injection e9 with e91 e92 e93
 subst e91 e93
 refine spec_enter func86 rfl ntmps86 rfl ?_
 intro u R
 refine Zb [0, 1, 2, 3, 4] ?_
 refine Zq <| Zg <| Za Y <| Z0 <| Zx <| Zq <| Zq <| Zg <| Zm Y <| Zv (p_lss_nat (n := 0) Y Y) <| Zm Y ?_
 refine ops_split (t := 18) Y rfl (fun h1 => ?_) (fun h1 => ?_)
 ·
  exfalso; (cases h1; done)
 ·
  refine Zf Y Y <| Yg (p_geq_nat (n := 4) Y Y) <| Zv (p_pick_f Y Y) <| Z0 <| Zx ?_
  refine at_if Y (fun h2 => ?_) (fun h2 => ?_)
  ·
   exfalso; omega
  ·
   refine at_skip <| Zx <| Zq <| Zg <| Za Y <| Z0 <| Zx <| Zq <| Zq <| Zg <| Za Y <| Z0 <| Zx <| at_block <| at_nil ?_
   refine Zb [11, 12, 0, 1, 2, 3, 4] ?_
   refine at_loopB (e0 := [(11, _), (12, _)]) (H0 := _) (n := _) (fun m e H => ∃ (i : Nat) (o : List RowM) (w : Value) (so : List Chunk), m = rs.length - i ∧ (i ≤ rs.length ∧ o = rangeL (rs.take i) t c lo hi ∧ o.length ≤ i ∧ RowS 5 74 w o.length (rowCells o) so) ∧ e = [(11, w), (12, .int .i64 (i : Int))] ∧ H = [so]) (by exact ⟨0, [], .slice none 0 0, [], rfl, ⟨Nat.zero_le _, by rw [List.take_zero]; rfl, Nat.le_refl _, rowS_nil 5 _⟩, rfl, rfl⟩) (by repeat (first | exact Pull.nil _ | (apply Pull.cons; (focus (repeat (first | exact One.here _ _ | apply One.there)))))) ?_
   rintro _ _ _ ⟨i, o, w, so, rfl, ⟨hi2, ho, hol2, hro⟩, rfl, rfl⟩
   obtain ⟨qo, capo, rfl⟩ := hro.form
   have hco := rowS_le hro
   refine Zq <| Zq <| Zg <| Zm Y <| Zm Y <| Zp Y rfl <| Zh 0 underlying121 rfl rfl sizeOf33 Y <| Zl isAgg33 Y ?_
   refine Zv (p_len_slice underlying33 Y) <| Zv (p_lss_nat Y Y) <| Z0 <| Zx ?_
   refine at_if Y (fun hlt => ?_) (fun hlt => ?_)
   ·
    obtain ⟨x, hx⟩ : ∃ x, rs[i]? = some x := ⟨_, List.getElem?_eq_getElem hlt⟩
    obtain ⟨g, off, cur, T, zz, rfl, hm9, hsz, hex⟩ := hg i x hx
    refine at_skip <| Zx <| Zq <| at_block <| Zq <| Zg <| Zm Y <| Zp Y rfl <| Zh 0 underlying121 rfl rfl sizeOf33 Y <| Zl isAgg33 Y ?_
    refine Zm Y ?_
    (refine op_v (p_indexAddr_nat underlying33 sizeOf74 Y Y ?_) ?_; (focus (omega)))
    refine op_rm (cs := [(g, .cells cur T zz)]) (by simp [hm9]) (p_load_agg (cs := #[.int .i64 x.t, .int .i64 x.k, .int .i64 x.v.a, .int .i64 x.v.b, .int .i64 x.v.c]) isAgg74 sizeOf74 Y (by omega) hex) rfl rfl ?_
    refine Ze (w_alloc zeroValue74 (cs := #[_, _, _, _, _]) rfl) ?_
    rintro _ _ ⟨xb, rfl, rfl⟩
    refine Ze (w_store_agg sizeOf74 Y Y (by (simp [Value.oneCell']; done)) (by repeat (first | exact Upd.here _ | apply Upd.there)) (by exact (rfl : _ = (#[.int .i64 x.t, .int .i64 x.k, .int .i64 x.v.a, .int .i64 x.v.b, .int .i64 x.v.c] : Array Value))) (by first | rfl | (simp; done)) (by exact Nat.le_refl _) (by exact free_zero _)) ?_
    rintro _ _ ⟨rfl, rfl⟩
    refine Z0 <| Zn [0, 1, 2, 3, 4, 11, 12, 13] ?_
    refine Zx <| Zq <| Zg <| Zo (by repeat (first | exact Has.here _ | apply Has.there)) (p_load_agg (cs := #[_, _, _, _, _]) isAgg74 sizeOf74 Y (by exact Nat.le_refl _) (by rfl)) ?_
    refine Zm Y <| Zr [_, _] Y call48 Y rfl (r3_value x c hc) ?_
    rintro _ _ ⟨rfl, rfl⟩
    refine Za Y <| Z0 <| Zx <| Zq <| Zq <| Zg <| Zh 0 underlying74 rfl rfl sizeOf3 Y <| Zl isAgg3 Y ?_
    refine Zm Y <| Zv (p_neq Y Y) <| Zm Y ?_
    refine ops_split (t := 45) Y rfl (fun hg1 => ?_) (fun hg1 => ?_)
    ·
     refine op_skip Y rfl <| op_skip Y rfl <| op_skip Y rfl <| Zv (p_pick_t Y Y) <| Zm Y <| op_skip Y rfl <| op_skip Y rfl <| op_skip Y rfl <| Zv (p_pick_t Y Y) <| Z0 <| Zn [0, 1, 2, 3, 4, 11, 12, 13, 14, 54] ?_
     refine Zx <| at_then Y <| at_exit <| Zt <| nx_block_exit <| Zx <| Zg <| Zm Y <| Ya (n := 1) Y Y <| Za Y <| Z0 <| Zn [11, 12, 0, 1, 2, 3, 4] ?_
     refine nx_againB (e' := [(11, _), (12, _)]) (m := _) (H' := _) (by exact ⟨i + 1, o, _, so, rfl, ⟨by omega, by rw [ho, rangeL_out hx (by omega)], by omega, hro⟩, rfl, rfl⟩)
    ·
     refine Zf Y Y <| Zf Y Y <| Yg (p_lss Y Y) <| Zv (p_pick_f Y Y) <| Zm Y ?_
     refine ops_split (t := 50) Y rfl (fun hg2 => ?_) (fun hg2 => ?_)
     ·
      refine op_skip Y rfl <| op_skip Y rfl <| op_skip Y rfl <| Zv (p_pick_t Y Y) <| Z0 <| Zn [0, 1, 2, 3, 4, 11, 12, 13, 14, 54] ?_
      refine Zx <| at_then Y <| at_exit <| Zt <| nx_block_exit <| Zx <| Zg <| Zm Y <| Ya (n := 1) Y Y <| Za Y <| Z0 <| Zn [11, 12, 0, 1, 2, 3, 4] ?_
      refine nx_againB (e' := [(11, _), (12, _)]) (m := _) (H' := _) (by exact ⟨i + 1, o, _, so, rfl, ⟨by omega, by rw [ho, rangeL_out hx (by omega)], by omega, hro⟩, rfl, rfl⟩)
     ·
      refine Zf Y Y <| Zf Y Y <| Yg (p_gtr Y Y) <| Zv (p_pick_f Y Y) <| Z0 <| Zn [0, 1, 2, 3, 4, 11, 12, 13, 14, 54] ?_
      refine Zx ?_
      refine at_if Y (fun hg3 => ?_) (fun hg3 => ?_)
      ·
       refine at_exit <| Zt <| nx_block_exit <| Zx <| Zg <| Zm Y <| Ya (n := 1) Y Y <| Za Y <| Z0 <| Zn [11, 12, 0, 1, 2, 3, 4] ?_
       refine nx_againB (e' := [(11, _), (12, _)]) (m := _) (H' := _) (by exact ⟨i + 1, o, _, so, rfl, ⟨by omega, by rw [ho, rangeL_out hx (by omega)], by omega, hro⟩, rfl, rfl⟩)
      ·
       refine at_skip <| Zx <| Zq <| Zg <| Zm Y <| Zv (p_len_slice underlying33 Y) <| Za Y <| Z0 <| Zx <| Zb [14, 15, 0, 1, 2, 3, 4, 11, 12, 13] ?_
       refine at_cutB (e0 := [(14, _), (15, _)]) (H0 := []) (fun e H => ∃ (k : Nat), (k ≤ o.length ∧ placeV c o (valN x c) = k) ∧ e = [(15, .int .i64 (k : Int))] ∧ H = []) (by repeat (first | exact Pull.nil _ | (apply Pull.cons; (focus (repeat (first | exact One.here _ _ | apply One.there)))))) ?hx_5 ?hy_5
       case hx_5 =>
        refine at_block <| Zb [15, 0, 1, 2, 3, 4, 11, 12, 13, 14] ?_
        refine at_loopB (e0 := [(15, _)]) (H0 := _) (n := _) (fun m e H => ∃ (k : Nat), m = 0 + k ∧ (k ≤ o.length ∧ (∀ (j : Nat) (r : RowM), k ≤ j → o[j]? = some r → valN x c < valN r c)) ∧ e = [(15, .int .i64 (k : Int))] ∧ H = []) (by exact ⟨o.length, rfl, ⟨Nat.le_refl _, by intro j r hj hr; have := (List.getElem?_eq_some_iff.1 hr).1; omega⟩, rfl, rfl⟩) (by repeat (first | exact Pull.nil _ | (apply Pull.cons; (focus (repeat (first | exact One.here _ _ | apply One.there)))))) ?_
        rintro _ _ _ ⟨k, rfl, ⟨hk, hab⟩, rfl, rfl⟩
        refine Zq <| Zq <| Zg <| Zm Y <| Zv (p_gtr_nat (n := 0) Y Y) <| Zm Y ?_
        refine ops_split (t := 59) Y rfl (fun hkp => ?_) (fun hkp => ?_)
        ·
         obtain ⟨y, hy⟩ : ∃ y, o[k - 1]? = some y := ⟨_, List.getElem?_eq_getElem (by omega)⟩
         obtain ⟨p8, cap8, e8, hol8, hgo⟩ := rowsIn_of hro (by omega)
         injection e8 with e81 e82 e83
         subst e81 e83
         obtain ⟨g8, off8, cur8, T8, zz8, hq8, hm8, hsz8, hex8⟩ := hgo (k - 1) y hy
         subst hq8
         refine Zf Y Y <| Zf Y Y ?_
         (refine op_wg Y (p_sub_nat (n := 1) Y Y ?_ ?_) rfl rfl ?_; (focus (omega)); (focus (omega)))
         (refine op_wg Y (p_indexAddr_nat underlying33 sizeOf74 Y Y ?_) rfl rfl ?_; (focus (omega)))
         refine op_rmg Y (cs := [(g8, .cells cur8 T8 zz8)]) (by simp [hm8]) (p_load_agg (cs := #[.int .i64 y.t, .int .i64 y.k, .int .i64 y.v.a, .int .i64 y.v.b, .int .i64 y.v.c]) isAgg74 sizeOf74 Y (by omega) hex8) rfl rfl ?_
         refine Zf Y Y <| Zr [_, _] Y call48 Y rfl (r3_value y c hc) ?_
         rintro _ _ ⟨rfl, rfl⟩
         refine Zf Y Y <| Yg (p_gtr Y Y) <| Zv (p_pick_t Y Y) <| Z0 <| Zn [0, 1, 2, 3, 4, 11, 12, 13, 14, 15, 69] ?_
         refine Zx ?_
         refine at_if Y (fun hgt => ?_) (fun hgt => ?_)
         ·
          refine at_skip <| Zx <| at_block <| Zg <| Zm Y <| Yb (n := 1) Y Y <| Za Y <| Z0 <| nx_block_normal <| Zn [15, 0, 1, 2, 3, 4, 11, 12, 13, 14] ?_
          refine nx_againB (e' := [(15, _)]) (m := _) (H' := _) (by exact ⟨k - 1, rfl, ⟨by omega, by intro j r hj hr; rcases Nat.lt_or_ge j k with h9 | h9; (have e : j = k - 1 := by omega); subst e; rw [hy] at hr; injection hr with hr; subst hr; omega; exact hab j r h9 hr⟩, rfl, rfl⟩)
         ·
          refine at_exit <| Zt <| Zt <| nx_block_exit <| Zn [15, 0, 1, 2, 3, 4, 11, 12, 13] ?_
          refine nx_cutB (e' := [(15, _)]) (H' := _) (by exact ⟨k, ⟨hk, placeV_of hk hab (.inr ⟨y, hy, by omega⟩)⟩, rfl, rfl⟩)
        ·
         refine op_skip Y rfl <| op_skip Y rfl <| op_skip Y rfl <| op_skip Y rfl <| op_skip Y rfl <| op_skip Y rfl <| op_skip Y rfl <| op_skip Y rfl <| op_skip Y rfl <| Zv (p_pick_f Y Y) <| Z0 <| Zn [0, 1, 2, 3, 4, 11, 12, 13, 14, 15, 69] ?_
         refine Zx <| at_else Y <| at_exit <| Zt <| Zt <| nx_block_exit <| Zn [15, 0, 1, 2, 3, 4, 11, 12, 13] ?_
         refine nx_cutB (e' := [(15, _)]) (H' := _) (by exact ⟨k, ⟨hk, placeV_of hk hab (.inl (by omega))⟩, rfl, rfl⟩)
       case hy_5 =>
        rintro _ _ ⟨k, ⟨hk2, hpv⟩, rfl, rfl⟩
        refine at_draw (n := 12) (0 :: 0 :: 0 :: 7 :: 0 :: 16 :: 0 :: 0 :: 192 :: 496 :: 1023 :: 2047 :: []) 1568 (by kernel_rfl) (by kernel_rfl) rfl ?_
        refine Zi 1 0 rfl (p_move Y) <| Zi 3 1 rfl (p_move Y) <| Zi 7 2 rfl (p_move Y) ?_
        (refine lin_v (D' := 15) 3 (p_slice_slice3_to underlying33 sizeOf74 Y Y Y ?_) ?_; (focus (omega)))
        refine lin_r (D' := 31) 4 rfl rfl rfl (by repeat (first | exact Has.here _ | apply Has.there)) (p_load_agg (cs := #[_, _, _, _, _]) isAgg74 sizeOf74 Y (by exact Nat.le_refl _) (by rfl)) ?_
        refine Zi 95 6 rfl (p_move Y) <| Zi 223 7 rfl (p_move Y) ?_
        (refine lin_v (D' := 479) 8 (p_slice_slice_from underlying33 sizeOf74 Y Y ?_) ?_; (focus (omega)))
        refine Zz (l := [5]) ?_
        refine Zy 16 511 [4] [false] [] rfl Y rfl rfl rfl rfl (w_buildSlice (vs := [_]) (cs := [_, _, _, _, _]) underlying33 sizeOf74 zeroValue74 Y rfl rfl rfl rfl rfl) ?hk_10 (fun _ _ h => h.elim) ?hl_10
        case hk_10 =>
         rintro _ _ ⟨gb, rfl, rfl⟩
         refine ⟨keep_nil, ?_⟩
         refine Zz (l := [9]) ?_
         refine Zy 496 1023 [] [] [] rfl Y rfl rfl rfl rfl (w_append_subS (by_ := 40) (sz := 5) underlying33 (rfl : Tryz.prog.info? 74 = some Tryz.t74) rfl rfl rfl rfl Y (rowS_new 5 74 gb 1 (rowCells [x]) rfl (by decide)) Y (subS_from hro k (o.length - k) _ (by omega)) (by repeat (first | exact One.here _ _ | apply One.there)) (by repeat (first | exact One.here _ _ | apply One.there)) (by exact fun u hu => rowCells_one o u (List.mem_of_mem_drop hu)) (by omega) (by omega)) ?hk_11 (fun _ _ h => h.elim) ?hl_11
         case hk_11 =>
          rintro _ _ ⟨sa9, hra9, rfl⟩
          refine ⟨keep_nil, ?_⟩
          obtain ⟨ga9, ca9, rfl⟩ := hra9.form
          refine Zz (l := [10]) ?_
          refine Zy 1023 2047 [] [] [] rfl Y rfl rfl rfl rfl (w_append_freshS (by_ := 40) (sz := 5) underlying33 (rfl : Tryz.prog.info? 74 = some Tryz.t74) rfl rfl rfl rfl Y (subS_take hro k _ hk2) Y (subS_of hra9) (by repeat (first | exact One.here _ _ | apply One.there)) (by repeat (first | exact One.here _ _ | apply One.there)) (by omega) (by omega) (by omega)) ?hk_12 (fun _ _ h => h.elim) ?hl_12
          case hk_12 =>
           rintro _ _ ⟨sb9, hrb9, rfl⟩
           refine ⟨keep_nil, ?_⟩
           have hnew := rowS_eq hrb9 (n' := (o.take k ++ [x] ++ o.drop k).length) (xs' := rowCells (o.take k ++ [x] ++ o.drop k)) (by simp only [List.length_append, List.length_take, List.length_drop, List.length_singleton]; omega) (by rw [rowCells_app, rowCells_app, rowCells_take, rowCells_drop, List.append_assoc])
           have hins : o.take k ++ [x] ++ o.drop k = rangeL (rs.take (i + 1)) t c lo hi := by rw [rangeL_in hx (by omega), ← ho]; unfold insV; rw [hpv]
           obtain ⟨gb9, cb9, rfl⟩ := hrb9.form
           refine Zi 4095 11 rfl (p_assign Y) <| lin_nil ?_
           refine nx_block_normal <| Zx <| Zg <| Zm Y <| Ya (n := 1) Y Y <| Za Y <| Z0 <| Zn [11, 12, 0, 1, 2, 3, 4] ?_
           refine nx_againB (e' := [(11, _), (12, _)]) (m := _) (H' := _) (by exact ⟨i + 1, o.take k ++ [x] ++ o.drop k, _, _, rfl, ⟨by omega, hins, by simp only [List.length_append, List.length_take, List.length_drop, List.length_singleton]; omega, hnew⟩, rfl, rfl⟩)
          case hl_12 =>
           exact each_nil
         case hl_11 =>
          exact each_nil
        case hl_10 =>
         exact each_nil
   ·
    have ei : i = rs.length := by omega
    subst ei
    rw [List.take_length] at ho
    subst ho
    refine at_exit <| Zt <| Zt <| nx_block_exit <| Zx <| Zq <| Zg <| Zm Y <| Za Y <| Z0 <| Zx <| at_ret ?_
    refine nx_end1 rfl results86 Y (by exact ⟨so, hro, rfl⟩)

end Go.Proofs.YtjeepldonhgohaaGreatDoor
