/- The store: At. -/
/- The reference of layer 4: At, Rows, SameRows. -/
/- The value of a column: of the reference of layer 3, of the program. -/
/- The reference of layer 4: Range. -/
/- row.Value, to the world: what the comparator of the sort wants. -/
/- The store: the predicate of Range. -/
/- The store: chosen, over a contract of the sort. -/
/- The store: chosen, called by Range. -/
import Derived.Test.YtjeepldonhgohaaGreatDoorEz
import Derived.Test.YtjeepldonhgohaaGreatDoorKs2
import Derived.Test.YtjeepldonhgohaaGreatDoorEx17
import Derived.WalkKit
import Derived.WalkSpells
import Derived.Sort.Grow
import Derived.Deep.Draws
import Derived.Lib.Hide
import Derived.LoopTactic
import Derived.Test.YtjeepldonhgohaaGreatDoorWi2
namespace Go.Proofs.YtjeepldonhgohaaGreatDoor
open Go.Proofs.Tryz
open Go Go.RowKit Gw
set_option linter.unusedVariables false
set_option linter.unusedSimpArgs false
set_option maxRecDepth 100000
attribute [local irreducible] Gw.At Gw.Nx Gw.Ops
theorem st_at (q : Option Addr) (cap : Nat) (l : List RecM) (M : List Chunk) (hRI : RecsIn M (.slice q l.length cap) l) (hlog : LogOk l) (hl : l.length ≤ 1000000) (k : Nat) (hk : k ≤ l.length) :
    Does Tryz.prog 30 #[.slice q l.length cap, .int .i64 (k : Int)] [M] (fun r H' => ∃ sp mb es ck lm, r = .tuple #[.pointer (some ⟨sp, 0, none⟩), .int .i64 0] ∧ MapM K2 es ck lm ∧ MapR lm (rowsOf (l.take k)) ∧ H' = [[(sp, .cells #[.map (some mb), .int .i64 (k : Int)] 154 (0, 0))], [(mb, .map es ck)], M]) := by
 have hml : maxLen = 9223372036854775807 := rfl
 obtain ⟨p9, cap9, e9, ⟨hol, hlc⟩, hg⟩ := id hRI
 injection e9 with e91 e92 e93
 subst e91 e93
 refine spec_enter func30 rfl ntmps30 rfl ?_
 intro u R
 refine Zb [0, 1] ?_
 refine Zq <| Zg <| Za Y <| Za Y <| Z0 <| Zx <| Zq <| Zq <| Zg <| Zm Y <| Zv (p_lss_nat (n := 0) Y Y) <| Zm Y ?_
 refine ops_split (t := 11) Y rfl (fun h1 => ?_) (fun h1 => ?_)
 ·
  exfalso; (cases h1; done)
 ·
  refine Zf Y Y <| Zf Y Y <| Yg (p_len_slice underlying69 Y) <| Yg (p_gtr_nat Y Y) <| Zv (p_pick_f Y Y) <| Z0 <| Zx ?_
  refine at_if Y (fun h2 => ?_) (fun h2 => ?_)
  ·
   exfalso; omega
  ·
   refine at_skip <| Zx <| Zq <| Zg <| Zc [] Y call72 Y rfl (st_new) ?_
   rintro _ _ ⟨_, ⟨sp, mb, rfl, rfl⟩, rfl⟩
   refine Za Y <| Z0 <| Zx <| Zq <| Zq <| Zg <| Zm Y <| Zm Y ?_
   (refine op_v (p_slice_slice_to underlying69 sizeOf68 Y Y ?_) ?_; (focus (first | omega | decide | (simp; done))))
   refine Zv (p_len_slice underlying69 Y) <| Zm Y <| Z0 <| Zn [6, 20, 21, 22] ?_
   refine Zx <| at_block <| Zb [22, 6, 20, 21] ?_
   refine at_loopB (e0 := [(22, _)]) (H0 := _) (n := _) (fun m e H => ∃ (i : Nat) (es : Array MapEntry) (ck : Nat) (lm : List ((Int × Int) × Value)), m = k - i ∧ (i ≤ k ∧ MapM K2 es ck lm ∧ MapR lm (rowsOf (l.take i))) ∧ e = [(22, .int .i64 (i : Int))] ∧ H = [[(sp, .cells #[.map (some mb), .int .i64 (i : Int)] 154 (0, 0))], [(mb, .map es ck)]]) (by exact ⟨0, #[], 0, [], rfl, ⟨Nat.zero_le _, mapM_new _, by rw [List.take_zero]; exact mapR_nil⟩, rfl, rfl⟩) (by repeat (first | exact Pull.nil _ | (apply Pull.cons; (focus (repeat (first | exact One.here _ _ | apply One.there)))))) ?_
   rintro _ _ _ ⟨i, es, ck, lm, rfl, ⟨hi, hm, hR⟩, rfl, rfl⟩
   refine Zq <| Zg <| Zv (p_lss_nat Y Y) <| Z0 <| Zx <| Zq ?_
   refine at_if Y (fun hlt => ?_) (fun hlt => ?_)
   ·
    obtain ⟨r, hr⟩ : ∃ r, l[i]? = some r := ⟨_, List.getElem?_eq_getElem (by omega)⟩
    obtain ⟨hOr, g, off, cur, T, zz, rfl, hm9, hsz, hex⟩ := hg i r hr
    obtain ⟨hA, h3⟩ := hlog i r hr
    have hrp := hA.pos
    obtain ⟨hso, hle⟩ := hlog.rows i (by omega)
    refine at_skip <| Zx <| Zq <| at_block <| Zq <| Zg ?_
    (refine op_v (p_indexAddr_nat underlying69 sizeOf68 Y Y ?_) ?_; (focus (first | omega | decide | (simp; done))))
    refine op_rm (cs := [(g, .cells cur T zz)]) (by simp [hm9]) (p_load_agg (cs := #[.int .i64 r.p, .slice r.q r.cs.length r.cap]) isAgg68 sizeOf68 Y (by omega) hex) rfl rfl ?_
    refine Ze (w_alloc zeroValue68 (cs := #[_, _]) rfl) ?_
    rintro _ _ ⟨rb, rfl, rfl⟩
    refine Ze (w_store_agg sizeOf68 Y Y (by (simp [Value.oneCell']; done)) (by repeat (first | exact Upd.here _ | apply Upd.there)) (by exact (rfl : _ = (#[.int .i64 r.p, .slice r.q r.cs.length r.cap] : Array Value))) (by first | rfl | (simp; done)) (by first | omega | decide | (simp; done)) (by exact free_zero _)) ?_
    rintro _ _ ⟨rfl, rfl⟩
    refine Z0 <| Zx <| Zq <| Zg <| Zm Y <| Zo (by repeat (first | exact Has.here _ | apply Has.there)) (p_load_agg (cs := #[_, _]) isAgg68 sizeOf68 Y (by first | omega | decide | (simp; done)) (by rfl)) ?_
    refine Zc [_, _] Y call73 Y rfl (st_apply sp mb (i : Int) r.p es ck lm (rowsOf (l.take i)) M r.q r.cap r.cs hm hR hOr hso hle hA) ?_
    rintro _ _ ⟨_, ⟨rfl, es2, ck2, lm2, hm2, hR2, rfl⟩, rfl⟩
    have hR3 : MapR lm2 (rowsOf (l.take (i + 1))) := by rw [List.take_add_one, hr]; show MapR lm2 (rowsOf (l.take i ++ [r])); rw [rowsOf_snoc]; exact hR2
    rw [show r.p = ((i + 1 : Nat) : Int) by rw [hrp]; rfl]
    refine Zv (p_neq_nat (n := 0) Y Y) <| Z0 <| Zx ?_
    refine at_if Y (fun h4 => ?_) (fun h4 => ?_)
    ·
     exfalso; exact h4 rfl
    ·
     refine at_skip <| nx_block_normal <| Zx <| Zg <| Ya (n := 1) Y Y <| Zm Y <| Z0 <| Zn [22, 6, 20, 21] ?_
     refine nx_againB (e' := [(22, _)]) (m := _) (H' := _) (by exact ⟨i + 1, es2, ck2, lm2, rfl, ⟨by omega, hm2, hR3⟩, rfl, rfl⟩)
   ·
    have ei : i = k := by omega
    subst ei
    refine at_exit <| Zt <| Zt <| nx_block_exit <| Zx <| Zq <| Zg <| Zm Y <| Za Y <| Za Y <| Z0 <| Zx <| at_ret ?_
    refine nx_end2 rfl results30 Y Y (by exact ⟨sp, mb, es, ck, lm, rfl, hm, hR, rfl⟩)

end Go.Proofs.YtjeepldonhgohaaGreatDoor

namespace Go.Proofs.YtjeepldonhgohaaGreatDoor
open Go.Proofs.Tryz
open Go Go.RowKit Gw
set_option linter.unusedVariables false
set_option linter.unusedSimpArgs false
set_option maxRecDepth 100000
attribute [local irreducible] Gw.At Gw.Nx Gw.Ops
theorem r4_apply_ok (sp : Nat) (p rp : Int) (v : Value) (rs : List RowM) (sv M : List Chunk) (q : Option Addr) (capc : Nat) (cs : List Chg) (hrow : RowS 5 74 v rs.length (rowCells rs) sv) (hO : ChgsIn M (.slice q cs.length capc) cs) (hs : SortedR rs) (hn : rs.length ≤ 2000) (hp : 0 ≤ p ∧ p ≤ 10000) (hA : AppOk rs p rp cs) :
    Does Tryz.prog 79 #[.pointer (some ⟨sp, 0, none⟩), .agg #[.int .i64 rp, .slice q cs.length capc]] [[(sp, .cells #[v, .int .i64 p] 121 (0, 0))], sv, M] (fun r H' => r = .int .i64 0 ∧ ∃ v' sv', RowS 5 74 v' (putAllR rs cs).length (rowCells (putAllR rs cs)) sv' ∧ H' = [[(sp, .cells #[v', .int .i64 rp] 121 (0, 0))], sv', M]) :=
  DoesE.mono (r4_apply sp p rp v rs sv M q capc cs hrow hO hs hn hp) (fun r H' h => by
    rcases h with ⟨_, v', sv', rfl, h, rfl⟩ | ⟨h, _⟩
    · exact ⟨rfl, v', sv', h, rfl⟩
    · exact absurd hA h) (fun _ _ h => h)

theorem r4_at (q : Option Addr) (cap : Nat) (l : List RecM) (M : List Chunk) (hRI : RecsIn M (.slice q l.length cap) l) (hlog : LogOk l) (hl : l.length ≤ 9000) (k : Nat) (hk : k ≤ l.length) :
    Does Tryz.prog 33 #[.slice q l.length cap, .int .i64 (k : Int)] [M] (fun r H' => ∃ sp w sv, r = .tuple #[.pointer (some ⟨sp, 0, none⟩), .int .i64 0] ∧ RowS 5 74 w (rowsOf (l.take k)).length (rowCells (rowsOf (l.take k))) sv ∧ H' = [[(sp, .cells #[w, .int .i64 (k : Int)] 121 (0, 0))], sv, M]) := by
 have hml : maxLen = 9223372036854775807 := rfl
 obtain ⟨p9, cap9, e9, ⟨hol, hlc⟩, hg⟩ := id hRI
 injection e9 with e91 e92 e93
 subst e91 e93
 refine spec_enter func33 rfl ntmps33 rfl ?_
 intro u R
 refine Zb [0, 1] ?_
 refine Zq <| Zg <| Za Y <| Za Y <| Z0 <| Zx <| Zq <| Zq <| Zg <| Zm Y <| Zv (p_lss_nat (n := 0) Y Y) <| Zm Y ?_
 refine ops_split (t := 11) Y rfl (fun h1 => ?_) (fun h1 => ?_)
 ·
  exfalso; (cases h1; done)
 ·
  refine Zf Y Y <| Zf Y Y <| Yg (p_len_slice underlying69 Y) <| Yg (p_gtr_nat Y Y) <| Zv (p_pick_f Y Y) <| Z0 <| Zx ?_
  refine at_if Y (fun h2 => ?_) (fun h2 => ?_)
  ·
   exfalso; omega
  ·
   refine at_skip <| Zx <| Zq <| Zg <| Zc [] Y call77 Y rfl (r4_new) ?_
   rintro _ _ ⟨_, ⟨sp, rfl, rfl⟩, rfl⟩
   refine Za Y <| Z0 <| Zx <| Zq <| Zq <| Zg <| Za Y <| Z0 <| Zn [0, 1, 6, 7] ?_
   refine Zx <| at_block <| at_nil ?_
   refine Zb [7, 0, 1, 6] ?_
   refine at_loopB (e0 := [(7, _)]) (H0 := _) (n := _) (fun m e H => ∃ (i : Nat) (w : Value) (sv : List Chunk), m = k - i ∧ (i ≤ k ∧ RowS 5 74 w (rowsOf (l.take i)).length (rowCells (rowsOf (l.take i))) sv) ∧ e = [(7, .int .i64 (i : Int))] ∧ H = [[(sp, .cells #[w, .int .i64 (i : Int)] 121 (0, 0))], sv]) (by exact ⟨0, .slice none 0 0, [], rfl, ⟨Nat.zero_le _, by rw [List.take_zero]; exact rowS_nil 5 _⟩, rfl, rfl⟩) (by repeat (first | exact Pull.nil _ | (apply Pull.cons; (focus (repeat (first | exact One.here _ _ | apply One.there)))))) ?_
   rintro _ _ _ ⟨i, w, sv, rfl, ⟨hi, hrw⟩, rfl, rfl⟩
   refine Zq <| Zq <| Zg <| Zm Y <| Zm Y <| Zv (p_lss_nat Y Y) <| Z0 <| Zx ?_
   refine at_if Y (fun hlt => ?_) (fun hlt => ?_)
   ·
    obtain ⟨r, hr⟩ : ∃ r, l[i]? = some r := ⟨_, List.getElem?_eq_getElem (by omega)⟩
    obtain ⟨hOr, g, off, cur, T, zz, rfl, hm9, hsz, hex⟩ := hg i r hr
    obtain ⟨hA, h3⟩ := hlog i r hr
    have hrp := hA.pos
    obtain ⟨hso, hle⟩ := hlog.rows i (by omega)
    refine at_skip <| Zx <| Zq <| at_block <| Zq <| Zg <| Zm Y <| Zm Y <| Zm Y ?_
    (refine op_v (p_indexAddr_nat underlying69 sizeOf68 Y Y ?_) ?_; (focus (omega)))
    refine op_rm (cs := [(g, .cells cur T zz)]) (by simp [hm9]) (p_load_agg (cs := #[.int .i64 r.p, .slice r.q r.cs.length r.cap]) isAgg68 sizeOf68 Y (by omega) hex) rfl rfl ?_
    refine Zc [_, _] Y call79 Y rfl (r4_apply_ok sp (i : Int) r.p w (rowsOf (l.take i)) sv M r.q r.cap r.cs hrw hOr hso hle (by omega) hA) ?_
    rintro _ _ ⟨_, ⟨rfl, v2, sv2, hrw2, rfl⟩, rfl⟩
    have hrw3 : RowS 5 74 v2 (rowsOf (l.take (i + 1))).length (rowCells (rowsOf (l.take (i + 1)))) sv2 := by rw [List.take_add_one, hr]; show RowS 5 74 v2 (rowsOf (l.take i ++ [r])).length (rowCells (rowsOf (l.take i ++ [r]))) sv2; rw [rowsOf_snoc]; exact hrw2
    rw [show r.p = ((i + 1 : Nat) : Int) by rw [hrp]; rfl]
    refine Za Y <| Z0 <| Zx <| Zq <| Zg <| Zm Y <| Zv (p_neq_nat (n := 0) Y Y) <| Z0 <| Zx ?_
    refine at_if Y (fun h4 => ?_) (fun h4 => ?_)
    ·
     exfalso; exact h4 rfl
    ·
     refine at_skip <| nx_block_normal <| Zx <| Zg <| Zm Y <| Ya (n := 1) Y Y <| Za Y <| Z0 <| Zn [7, 0, 1, 6] ?_
     refine nx_againB (e' := [(7, _)]) (m := _) (H' := _) (by exact ⟨i + 1, v2, sv2, rfl, ⟨by omega, hrw3⟩, rfl, rfl⟩)
   ·
    have ei : i = k := by omega
    subst ei
    refine at_exit <| Zt <| Zt <| nx_block_exit <| Zx <| Zq <| Zg <| Zm Y <| Za Y <| Za Y <| Z0 <| Zx <| at_ret ?_
    refine nx_end2 rfl results33 Y Y (by exact ⟨sp, w, sv, rfl, hrw, rfl⟩)

end Go.Proofs.YtjeepldonhgohaaGreatDoor

namespace Go.Proofs.YtjeepldonhgohaaGreatDoor
open Go.Proofs.Tryz
open Go Go.RowKit Gw
set_option linter.unusedVariables false
set_option linter.unusedSimpArgs false
set_option maxRecDepth 100000
attribute [local irreducible] Gw.At Gw.Nx Gw.Ops
def valN (r : RowM) (c : Nat) : Int := if c = 0 then r.k else if c = 1 then r.v.a else if c = 2 then r.v.b else r.v.c
theorem valN_at {r : RowM} {c : Nat} (h1 : 1 ≤ c) (h3 : c ≤ 3) : (#[.int .i64 r.t, .int .i64 r.k, .int .i64 r.v.a, .int .i64 r.v.b, .int .i64 r.v.c] : Array Value)[0 + 2 + (c - 1)]? = some (.int .i64 (valN r c)) := by
  rcases (by omega : c = 1 ∨ c = 2 ∨ c = 3) with rfl | rfl | rfl <;> rfl

theorem r3_value (r : RowM) (c : Nat) (hc : c ≤ 3) : DoesR Tryz.prog 48 #[.agg #[.int .i64 r.t, .int .i64 r.k, .int .i64 r.v.a, .int .i64 r.v.b, .int .i64 r.v.c], .int .i64 (c : Int)] [] (.int .i64 (valN r c)) := by
 refine spec_enter func48 rfl ntmps48 rfl ?_
 intro u R
 refine Zb [0, 1] ?_
 refine Zq <| Zg <| Ze (w_box Y (cs := #[_, _, _, _, _]) rfl) ?_
 rintro _ _ ⟨b1, rfl, rfl⟩
 refine Za Y <| Z0 <| Zx <| Zq <| Zq <| Zg <| Zm Y <| Zv (p_eql_nat (n := 0) Y Y) <| Z0 <| Zx ?_
 refine at_if Y (fun h0 => ?_) (fun h0 => ?_)
 ·
  refine Zq <| Zg <| Zh 1 underlying74 rfl rfl sizeOf3 Y <| Zl isAgg3 Y ?_
  refine Za Y <| Z0 <| Zx <| at_ret <| Zt ?_
  refine nx_end1 rfl results48 Y (by exact ⟨by unfold valN; rw [if_pos (by omega)], rfl⟩)
 ·
  refine at_skip <| Zx <| Zq <| Zq <| Zg <| Zm Y <| Zr [_, _, _] Y call87 Y rfl (r3_within (c : Int) 1 3) ?_
  rintro _ _ ⟨rfl, rfl⟩
  refine Z0 <| Zx ?_
  refine at_if Y (fun h1 => ?_) (fun h1 => ?_)
  ·
   refine Zq <| Zg <| Zm Y <| Yb (n := 1) Y Y <| Zh 2 underlying74 rfl rfl sizeOf47 Y ?_
   (refine op_v (p_indexAddr_arr underlying47 sizeOf3 Y Y ?_) ?_; (focus (omega)))
   refine Zo (by repeat (first | exact Has.here _ | apply Has.there)) (p_load (v := .int .i64 (valN r c)) isAgg3 Y (by simpa using valN_at (r := r) (c := c) (by omega) hc)) ?_
   refine Za Y <| Z0 <| Zx <| at_ret <| Zt ?_
   refine nx_end1 rfl results48 Y (by exact ⟨rfl, rfl⟩)
  ·
   refine at_skip <| Zx <| Zq <| Zg <| Za Y <| Z0 <| Zx <| at_ret ?_
   refine nx_end1 rfl results48 Y (by exfalso; omega)

end Go.Proofs.YtjeepldonhgohaaGreatDoor


namespace Go.Proofs.YtjeepldonhgohaaGreatDoor
open Go.Proofs.Tryz
open Go Go.RowKit Gw
set_option linter.unusedVariables false
set_option linter.unusedSimpArgs false
set_option maxRecDepth 100000
attribute [local irreducible] Gw.At Gw.Nx Gw.Ops
/-- Where a row with the value v is put behind those whose value is not greater. -/
def placeV (c : Nat) (out : List RowM) (v : Int) : Nat := (out.reverse.dropWhile (fun r => decide (v < valN r c))).length
def insV (c : Nat) (out : List RowM) (x : RowM) : List RowM := out.take (placeV c out (valN x c)) ++ [x] ++ out.drop (placeV c out (valN x c))
def inR (t : Int) (c : Nat) (lo hi : Int) (r : RowM) : Bool := decide (r.t = t ∧ lo ≤ valN r c ∧ valN r c ≤ hi)
/-- The rows of a range, ordered by the value of the column. -/
def rangeL (rs : List RowM) (t : Int) (c : Nat) (lo hi : Int) : List RowM := (rs.filter (inR t c lo hi)).foldl (insV c) []
end Go.Proofs.YtjeepldonhgohaaGreatDoor


namespace Go.Proofs.YtjeepldonhgohaaGreatDoor
open Go.Proofs.Tryz
open Go Go.RowKit Gw
set_option linter.unusedVariables false
set_option linter.unusedSimpArgs false
set_option maxRecDepth 100000
attribute [local irreducible] Gw.At Gw.Nx Gw.Ops
open Go.Sort
/-- The value of a column: the key, or one of the three values. -/
def valL (r : RowM) (c : Int) : Int := if c = 0 then r.k else if c = 1 then r.v.a else if c = 2 then r.v.b else if c = 3 then r.v.c else 0
set_option maxHeartbeats 1000000 in
theorem value_calls (r : RowM) (c : Int) (hc : 0 ≤ c ∧ c ≤ 3) (W : World) : Calls Tryz.prog 42 #[.agg #[.int .i64 r.t, .int .i64 r.k, .int .i64 r.v.a, .int .i64 r.v.b, .int .i64 r.v.c], .int .i64 c] W fun e w' => e = .returned (.int .i64 (valL r c)) ∧ ∃ (q : Nat) (o : Obj), w' = grow (W.drewN q) #[o] := by
  obtain ⟨t, k, ⟨va, vb, vc⟩⟩ := r
  rcases (by omega : c = 0 ∨ c = 1 ∨ c = 2 ∨ c = 3) with rfl | rfl | rfl | rfl
  all_goals
    go_enter func42, ntmps42
    go_wp2
    go_ret
    exact ⟨rfl, 0, _, by rw [alloc_eq_grow]; rfl⟩
def orL (x y : Int) : Int := if x = 0 then y else x
theorem or_calls (b : Nat) (x y : Int) (W : World) (h0 : W.cell? ⟨b, 0, none⟩ = some (.int .i64 x)) (h1 : W.cell? ⟨b, 1, none⟩ = some (.int .i64 y)) : Calls Tryz.prog 106 #[.slice (some ⟨b, 0, none⟩) 2 2] W fun e w' => e = .returned (.int .i64 (orL x y)) ∧ w' = W := by
  generalize hz : orL x y = z
  have HZ := Lib.hid hz
  clear hz
  go_enter func106, ntmps106
  go_wp2
  go_loop [5, 8] (fun _ i => ∃ (j : Nat), i = .int .i64 j ∧ (j = 0 ∨ (j = 1 ∧ x = 0) ∨ (j = 2 ∧ x = 0 ∧ y = 0))) (fun _ i => 2 - (intOf i).toNat)
  case atStart => exact ⟨0, rfl, .inl rfl⟩
  case round =>
    obtain ⟨j, rfl, hj⟩ := hrel
    rcases hj with rfl | ⟨rfl, hx⟩ | ⟨rfl, hx, hy⟩
    · by_cases hx : x = 0
      · subst hx
        go_wp2
        go_round
        case rel => exact ⟨1, by go_num, by simp⟩
        case measure => simp [intOf]
      · go_wp2
        go_ret
        exact ⟨by rw [← HZ.out]; unfold orL; rw [if_neg hx]; rfl, rfl⟩
    · subst hx
      by_cases hy : y = 0
      · subst hy
        go_wp2
        go_round
        case rel => exact ⟨2, by go_num, by simp⟩
        case measure => simp [intOf]
      · go_wp2
        go_ret
        exact ⟨by rw [← HZ.out]; unfold orL; rw [if_pos rfl]; rfl, rfl⟩
    · subst hx hy
      go_wp2
      go_ret
      exact ⟨by rw [← HZ.out]; rfl, rfl⟩

end Go.Proofs.YtjeepldonhgohaaGreatDoor


namespace Go.Proofs.YtjeepldonhgohaaGreatDoor
open Go.Proofs.Tryz
open Go Go.RowKit Gw
set_option linter.unusedVariables false
set_option linter.unusedSimpArgs false
set_option maxRecDepth 100000
attribute [local irreducible] Gw.At Gw.Nx Gw.Ops
open Go.Sort
theorem sat_grow {u w : World} {H : Hp} (h : Sat u H w) (q : Nat) (os : Array Obj) : Sat u H (grow (w.drewN q) os) := by
  refine ⟨h.os, h.tape, h.output, h.nodup, fun p hp => ?_⟩
  have hlt := h.lt hp
  show (w.heap ++ os)[p.1]? = _
  rw [Array.getElem?_append_left hlt]
  exact h.get p hp
theorem valL_N (r : RowM) (c : Nat) (hc : c ≤ 3) : valL r (c : Int) = valN r c := by
  rcases (by omega : c = 0 ∨ c = 1 ∨ c = 2 ∨ c = 3) with rfl | rfl | rfl | rfl <;> rfl
theorem rw_value (r : RowM) (c : Nat) (hc : c ≤ 3) : DoesR Tryz.prog 42 #[.agg #[.int .i64 r.t, .int .i64 r.k, .int .i64 r.v.a, .int .i64 r.v.b, .int .i64 r.v.c], .int .i64 (c : Int)] [] (.int .i64 (valN r c)) := fun u R w hs =>
  (value_calls r (c : Int) (by omega) w).mono (by
    rintro e w' ⟨rfl, q, o, rfl⟩
    exact .inl ⟨_, [], rfl, ⟨by rw [valL_N r c hc], rfl⟩, sat_grow hs q _⟩)

theorem range_in (r : RowM) (t : Int) (c : Nat) (lo hi : Int) (hc : c ≤ 3) (b1 b2 b3 b4 : Nat) : DoesR Tryz.prog 68 #[.agg #[.int .i64 r.t, .int .i64 r.k, .int .i64 r.v.a, .int .i64 r.v.b, .int .i64 r.v.c], .pointer (some ⟨b1, 0, none⟩), .pointer (some ⟨b2, 0, none⟩), .pointer (some ⟨b3, 0, none⟩), .pointer (some ⟨b4, 0, none⟩)] [[(b1, .cells #[.int .i64 (c : Int)] 3 (0, 0))], [(b2, .cells #[.int .i64 t] 3 (0, 0))], [(b3, .cells #[.int .i64 lo] 3 (0, 0))], [(b4, .cells #[.int .i64 hi] 3 (0, 0))]] (.bool (inR t c lo hi r)) := by
 refine spec_enter func68 rfl ntmps68 rfl ?_
 intro u R
 refine Zb [0, 1, 2, 3, 4] ?_
 refine Zq <| Zg <| Ze (w_box Y (cs := #[_, _, _, _, _]) rfl) ?_
 rintro _ _ ⟨b1, rfl, rfl⟩
 refine Za Y <| Z0 <| Zx <| Zq <| Zg <| Zo (by repeat (first | exact Has.here _ | apply Has.there)) (p_load_agg (cs := #[_, _, _, _, _]) isAgg74 sizeOf74 Y (by exact Nat.le_refl _) (by rfl)) ?_
 refine Zl isAgg3 Y ?_
 refine Zr [_, _] Y call42 Y rfl (rw_value r c hc) ?_
 rintro _ _ ⟨rfl, rfl⟩
 refine Za Y <| Z0 <| Zx <| Zq <| Zg <| Zh 0 underlying74 rfl rfl sizeOf3 Y <| Zl isAgg3 Y ?_
 refine Zl isAgg3 Y ?_
 refine Zv (p_eql Y Y) <| Zm Y ?_
 refine ops_split (t := 15) Y rfl (fun h1 => ?_) (fun h1 => ?_)
 ·
  refine Zf Y Y <| Yl isAgg3 Y ?_
  refine Yg (p_geq Y Y) <| Zv (p_pick_t Y Y) <| Zm Y ?_
  refine ops_split (t := 20) Y rfl (fun h2 => ?_) (fun h2 => ?_)
  ·
   refine Zf Y Y <| Yl isAgg3 Y ?_
   refine Yg (p_leq Y Y) <| Zv (p_pick_t Y Y) <| Za Y <| Z0 <| Zn [6] ?_
   refine Zx <| at_ret ?_
   refine nx_end1 rfl results68 Y (by exact ⟨by unfold inR; (simp_all; done), rfl⟩)
  ·
   refine op_skip Y rfl <| op_skip Y rfl <| op_skip Y rfl <| Zv (p_pick_f Y Y) <| Za Y <| Z0 <| Zn [6] ?_
   refine Zx <| at_ret ?_
   refine nx_end1 rfl results68 Y (by exact ⟨by unfold inR; (congr 1; simp; omega), rfl⟩)
 ·
  refine op_skip Y rfl <| op_skip Y rfl <| op_skip Y rfl <| Zv (p_pick_f Y Y) <| Zm Y <| op_skip Y rfl <| op_skip Y rfl <| op_skip Y rfl <| Zv (p_pick_f Y Y) <| Za Y <| Z0 <| Zn [6] ?_
  refine Zx <| at_ret ?_
  refine nx_end1 rfl results68 Y (by exact ⟨by unfold inR; (simp_all; done), rfl⟩)

end Go.Proofs.YtjeepldonhgohaaGreatDoor

namespace Go.Proofs.YtjeepldonhgohaaGreatDoor
open Go.Proofs.Tryz
open Go Go.RowKit Gw
set_option linter.unusedVariables false
set_option linter.unusedSimpArgs false
set_option maxRecDepth 100000
attribute [local irreducible] Gw.At Gw.Nx Gw.Ops
theorem nodup_lt : ∀ (n : Nat) (js : List Nat), js.Nodup → (∀ j ∈ js, j < n) → js.length ≤ n
  | 0, js, _, h => by
    cases js with
    | nil => simp
    | cons a l => exact absurd (h a (by simp)) (Nat.not_lt_zero _)
  | n + 1, js, hn, h => by
    by_cases hm : n ∈ js
    · have h1 := nodup_lt n (js.erase n) (hn.erase n) (fun j hj => by
        have h2 := (hn.mem_erase_iff).1 hj
        have h3 := h j h2.2
        have h4 := h2.1
        omega)
      rw [List.length_erase_of_mem hm] at h1
      omega
    · have h1 := nodup_lt n js hn (fun j hj => by
        have h3 := h j hj
        have h4 : j ≠ n := fun e => hm (e ▸ hj)
        omega)
      omega
def pairR (r : RowM) : (Int × Int) × Value := ((r.t, r.k), rowV r)
theorem pairR_inj {a b : RowM} (h : pairR a = pairR b) : a = b := rowV_inj (Prod.mk.inj h).2
theorem perm_pairs {a b : List RowM} (ha : (a.map pairR).Nodup) (h : (a.map pairR).Perm (b.map pairR)) : a.Perm b := by
  have nd : ∀ {l : List RowM}, (l.map pairR).Nodup → l.Nodup := fun {l} hl => by
    rw [List.nodup_iff_pairwise_ne, List.pairwise_map] at hl
    rw [List.nodup_iff_pairwise_ne]
    exact hl.imp (fun hne e => hne (by rw [e]))
  rw [List.perm_ext_iff_of_nodup (nd ha) (nd (h.nodup ha))]
  intro x
  have h1 := h.mem_iff (a := pairR x)
  rw [List.mem_map, List.mem_map] at h1
  constructor
  · intro hx
    obtain ⟨y, hy, e⟩ := h1.1 ⟨x, hx, rfl⟩
    rwa [pairR_inj e] at hy
  · intro hx
    obtain ⟨y, hy, e⟩ := h1.2 ⟨x, hx, rfl⟩
    rwa [pairR_inj e] at hy
theorem MapR.perm {es : Array MapEntry} {ck : Nat} {l : List ((Int × Int) × Value)} {rs : List RowM} (hm : MapM K2 es ck l) (h : MapR l rs) (hs : SortedR rs) : l.Perm (rs.map pairR) := by
  have h1 : l.Nodup := by
    have := hm.keys
    rw [List.nodup_iff_pairwise_ne, List.pairwise_map] at this
    rw [List.nodup_iff_pairwise_ne]
    exact this.imp (fun hne e => hne (by rw [e]))
  have h2 : (rs.map pairR).Nodup := by
    rw [List.nodup_iff_pairwise_ne, List.pairwise_map]
    refine hs.imp (fun {a b} hab e => ?_)
    have e2 := pairR_inj e
    subst e2
    unfold RowM.lt2 at hab
    omega
  rw [List.perm_ext_iff_of_nodup h1 h2]
  intro p
  rw [h.mem p, List.mem_map]
  constructor
  · rintro ⟨r, hr, rfl⟩; exact ⟨r, hr, rfl⟩
  · rintro ⟨r, hr, rfl⟩; exact ⟨r, hr, rfl⟩
/-- What has come out of the map so far, and what of it was taken. -/
structure Seen (lm : List ((Int × Int) × Value)) (f : RowM → Bool) (js : List Nat) (o : List RowM) : Prop where
  rows : ∃ rl : List RowM, rl.map pairR = pairsAt lm js ∧ o = rl.filter f
theorem seen_new (lm : List ((Int × Int) × Value)) (f : RowM → Bool) : Seen lm f [] [] := ⟨[], rfl, rfl⟩
theorem Seen.push {lm : List ((Int × Int) × Value)} {rs : List RowM} {f : RowM → Bool} {js : List Nat} {o : List RowM} (h : Seen lm f js o) {j : Nat} {r : RowM} (hj : lm[j]? = some (pairR r)) : Seen lm f (js ++ [j]) (o ++ (if f r then [r] else [])) := by
  obtain ⟨rl, h1, h2⟩ := h.rows
  refine ⟨rl ++ [r], by rw [List.map_append, h1, pairsAt_snoc lm js hj]; rfl, ?_⟩
  rw [List.filter_append, ← h2]
  cases hf : f r <;> simp [hf]
theorem Seen.done {es : Array MapEntry} {ck : Nat} {lm : List ((Int × Int) × Value)} {rs : List RowM} (hm : MapM K2 es ck lm) (hR : MapR lm rs) (hs : SortedR rs) {f : RowM → Bool} {js : List Nat} {o : List RowM} (h : Seen lm f js o) (hp : (pairsAt lm js).Perm lm) : o.Perm (rs.filter f) := by
  obtain ⟨rl, h1, rfl⟩ := h.rows
  have h2 := hR.perm hm hs
  have h3 : (rl.map pairR).Perm (rs.map pairR) := by rw [h1]; exact hp.trans h2
  have h4 : (rs.map pairR).Nodup := by
    rw [List.nodup_iff_pairwise_ne, List.pairwise_map]
    refine hs.imp (fun {a b} hab e => ?_)
    have e2 := pairR_inj e
    subst e2
    unfold RowM.lt2 at hab
    omega
  exact (perm_pairs (h3.symm.nodup h4) h3).filter f

end Go.Proofs.YtjeepldonhgohaaGreatDoor

namespace Go.Proofs.YtjeepldonhgohaaGreatDoor
open Go.Proofs.Tryz
open Go Go.RowKit Gw
set_option linter.unusedVariables false
set_option linter.unusedSimpArgs false
set_option maxRecDepth 100000
attribute [local irreducible] Gw.At Gw.Nx Gw.Ops
/-- Ordered by the value of a column, then by the key. -/
def leV (c : Nat) (a b : RowM) : Prop := valN a c < valN b c ∨ valN a c = valN b c ∧ a.k ≤ b.k
/-- What the sort does, called with chosen's closure. -/
def SortOk : Prop := ∀ (cb c : Nat) (w : Value) (o : List RowM) (s : List Chunk), c ≤ 3 → o.length ≤ 2000 → RowS 5 74 w o.length (rowCells o) s →
    Does Tryz.prog 104 #[w, .func (.func 105) #[] #[.pointer (some ⟨cb, 0, none⟩)]] [s, [(cb, .cells #[.int .i64 (c : Int)] 3 (0, 0))]]
      (fun r H' => r = .tuple #[] ∧ ∃ (s' : List Chunk) (o' : List RowM), o'.Perm o ∧ o'.Pairwise (leV c) ∧ RowS 5 74 w o'.length (rowCells o') s' ∧ H' = [s', [(cb, .cells #[.int .i64 (c : Int)] 3 (0, 0))]])

theorem chosen_range (hS : SortOk) (sp mb : Nat) (p : Int) (es : Array MapEntry) (ck : Nat) (lm : List ((Int × Int) × Value)) (rs : List RowM) (hm : MapM K2 es ck lm) (hR : MapR lm rs) (hs : SortedR rs) (hn : rs.length ≤ 2000) (t : Int) (c : Nat) (lo hi : Int) (hc : c ≤ 3) (b1 b2 b3 b4 : Nat) :
    Does Tryz.prog 67 #[.pointer (some ⟨sp, 0, none⟩), .int .i64 (c : Int), .func (.func 68) #[] #[.pointer (some ⟨b1, 0, none⟩), .pointer (some ⟨b2, 0, none⟩), .pointer (some ⟨b3, 0, none⟩), .pointer (some ⟨b4, 0, none⟩)]] [[(sp, .cells #[.map (some mb), .int .i64 p] 154 (0, 0))], [(mb, .map es ck)], [(b1, .cells #[.int .i64 (c : Int)] 3 (0, 0))], [(b2, .cells #[.int .i64 t] 3 (0, 0))], [(b3, .cells #[.int .i64 lo] 3 (0, 0))], [(b4, .cells #[.int .i64 hi] 3 (0, 0))]] (fun r H' => ∃ (so : List Chunk) (o : List RowM), RowS 5 74 r o.length (rowCells o) so ∧ o.Perm (rs.filter (inR t c lo hi)) ∧ o.Pairwise (leV c) ∧ H' = [so, [(sp, .cells #[.map (some mb), .int .i64 p] 154 (0, 0))], [(mb, .map es ck)], [(b1, .cells #[.int .i64 (c : Int)] 3 (0, 0))], [(b2, .cells #[.int .i64 t] 3 (0, 0))], [(b3, .cells #[.int .i64 lo] 3 (0, 0))], [(b4, .cells #[.int .i64 hi] 3 (0, 0))]]) := by
 have hml : maxLen = 9223372036854775807 := rfl
 have hln := hR.len hm hs
 refine spec_enter func67 rfl ntmps67 rfl ?_
 intro u R
 refine Zb [0, 1, 2] ?_
 refine Zq <| Zg <| Ze (w_box Y (cs := #[_]) rfl) ?_
 rintro _ _ ⟨cb, rfl, rfl⟩
 refine Za Y <| Z0 <| Zx <| Zq <| Zq <| Zg <| Zm Y <| Zv (p_eql_ptr_nil underlying25 Y Y) <| Z0 <| Zx ?_
 refine at_if_bool Y (fun h1 => ?_) (fun h1 => ?_)
 ·
  cases h1
 ·
  refine at_skip <| Zx <| Zq <| Zg <| Za Y <| Z0 <| Zx <| Zq <| Zq <| Zg <| Zm Y <| Zp Y rfl <| Zh 0 underlying154 rfl rfl sizeOf152 Y <| Zv (p_fieldAddr1 (off := 0) underlying152 rfl rfl sizeOf150 Y) <| Zl isAgg150 Y ?_
  refine Ze (w_rangeMap underlying150 Y (by repeat (first | exact Has.here _ | apply Has.there))) ?_
  rintro _ _ ⟨ib, rfl, rfl⟩
  refine Z0 <| Zx <| at_block <| at_nil ?_
  refine Zb [7, 2, 4, 17] ?_
  refine at_loopB (e0 := [(7, _)]) (H0 := _) (n := _) (fun m e H => ∃ (js : List Nat) (seen : Array Nat) (o : List RowM) (w : Value) (so : List Chunk), m = lm.length - js.length ∧ (IterM es js seen ∧ Seen lm (inR t c lo hi) js o ∧ RowS 5 74 w o.length (rowCells o) so ∧ o.length ≤ js.length) ∧ e = [(7, w)] ∧ H = [[(ib, .mapIter (some mb) ck seen ck)], so]) (by exact ⟨[], #[], [], .slice none 0 0, [], rfl, ⟨iterM_new _, seen_new _ _, rowS_nil 5 _, Nat.le_refl _⟩, rfl, rfl⟩) (by repeat (first | exact Pull.nil _ | (apply Pull.cons; (focus (repeat (first | exact One.here _ _ | apply One.there)))))) ?_
  rintro _ _ _ ⟨js, seen, o, w, so, rfl, ⟨hit, hse, hro, hoj⟩, rfl, rfl⟩
  obtain ⟨qo, capo, rfl⟩ := hro.form
  have hjl := nodup_lt es.size js hit.nodup hit.lt
  rw [hm.size] at hjl
  refine Zq <| Zg <| Ze (w_nextMap hm hit Y (by repeat (first | exact One.here _ _ | apply One.there)) (by repeat (first | exact Has.here _ | apply Has.there))) ?_
  rintro _ _ hnx
  rcases hnx with ⟨hdone, rfl, rfl⟩ | ⟨jn, pn, seen2, hpn, hjn, hi2, rfl, rfl⟩
  ·
   refine Zd Y rfl <| Z0 <| Zx <| Zq ?_
   refine at_if_bool Y (fun hb => ?_) (fun hb => ?_)
   ·
    cases hb
   ·
    refine at_exit <| Zt <| Zt <| nx_block_exit <| Zx <| Zq <| Zg <| Zm Y <| Zv (p_makeFunc (vs := []) (us := [_]) Y Y) ?_
    refine Zc [_, _] Y call104 Y rfl (hS cb c _ o so hc (by omega) hro) ?_
    rintro _ _ ⟨_, ⟨rfl, so2, o2, hpm, hpw, hro2, rfl⟩, rfl⟩
    refine Z0 <| Zx <| Zq <| Zg <| Zm Y <| Za Y <| Z0 <| Zx <| at_ret ?_
    refine nx_end1 rfl results67 Y (by exact ⟨so2, o2, hro2, hpm.trans (hse.done hm hR hs hdone), hpw, rfl⟩)
  ·
   obtain ⟨r, hr, rfl⟩ := (hR.mem pn).1 (List.mem_of_getElem? hpn)
   refine Zd Y rfl <| Z0 <| Zx <| Zq ?_
   refine at_if_bool Y (fun hb => ?_) (fun hb => ?_)
   ·
    have hjl2 := nodup_lt es.size (js ++ [jn]) hi2.nodup hi2.lt
    rw [hm.size, List.length_append, List.length_singleton] at hjl2
    have hla : (js ++ [jn]).length = js.length + 1 := by rw [List.length_append]; rfl
    have hse2 := hse.push (r := r) (rs := rs) hpn
    have hse2t : (inR t c lo hi) r = true → Seen lm (inR t c lo hi) (js ++ [jn]) (o ++ [r]) := fun h => by rw [h] at hse2; exact hse2
    have hse2f : (inR t c lo hi) r = false → Seen lm (inR t c lo hi) (js ++ [jn]) o := fun h => by rw [h] at hse2; simpa using hse2
    refine at_skip <| Zx <| at_block <| Zq <| Zg <| op_rm (cs := [(ib, .mapIter (some mb) ck seen2 ck), (mb, .map es ck)]) (by simp) (p_entryMap hm hi2 hpn Y) rfl rfl ?_
    refine Zd Y rfl <| Ze (w_alloc zeroValue74 (cs := #[_, _, _, _, _]) rfl) ?_
    rintro _ _ ⟨xb, rfl, rfl⟩
    refine Ze (w_store_agg sizeOf74 Y Y (by (simp [Value.oneCell']; done)) (by repeat (first | exact Upd.here _ | apply Upd.there)) (by exact (rfl : _ = (#[.int .i64 r.t, .int .i64 r.k, .int .i64 r.v.a, .int .i64 r.v.b, .int .i64 r.v.c] : Array Value))) (by first | rfl | (simp; done)) (by exact Nat.le_refl _) (by exact free_zero _)) ?_
    rintro _ _ ⟨rfl, rfl⟩
    refine Z0 <| Zx <| Zq <| Zg <| Zm Y <| Zo (by repeat (first | exact Has.here _ | apply Has.there)) (p_load_agg (cs := #[_, _, _, _, _]) isAgg74 sizeOf74 Y (by exact Nat.le_refl _) (by rfl)) ?_
    refine Zr [_] Y call68 Y rfl (range_in r t c lo hi hc b1 b2 b3 b4) ?_
    rintro _ _ ⟨rfl, rfl⟩
    refine Z0 <| Zx ?_
    refine at_if_bool Y (fun hin => ?_) (fun hin => ?_)
    ·
     refine Zg <| Zm Y <| Zo (by repeat (first | exact Has.here _ | apply Has.there)) (p_load_agg (cs := #[_, _, _, _, _]) isAgg74 sizeOf74 Y (by exact Nat.le_refl _) (by rfl)) ?_
     refine Ze (w_buildSlice (vs := [_]) (cs := [_, _, _, _, _]) underlying33 sizeOf74 zeroValue74 Y rfl rfl rfl rfl rfl) ?_
     rintro _ _ ⟨gb, rfl, rfl⟩
     refine Ze (w_append_subS (by_ := 40) (sz := 5) underlying33 (rfl : Tryz.prog.info? 74 = some Tryz.t74) rfl rfl rfl rfl Y (hro) Y (subS_new 5 gb 1 1 74 (0, 0) [.int .i64 r.t, .int .i64 r.k, .int .i64 r.v.a, .int .i64 r.v.b, .int .i64 r.v.c] rfl) (by repeat (first | exact One.here _ _ | apply One.there)) (by repeat (first | exact One.here _ _ | apply One.there)) (by simp [Value.oneCell']) (by omega) (by omega)) ?_
     rintro _ _ ⟨sa9, hra9, rfl⟩
     have hnew := rowS_eq hra9 (n' := (o ++ [r]).length) (xs' := rowCells (o ++ [r])) (by rw [List.length_append]; rfl) (by rw [rowCells_app]; rfl)
     obtain ⟨ga9, ca9, rfl⟩ := hra9.form
     refine Za Y <| Z0 <| Zn [2, 4, 7, 17] ?_
     refine nx_block_normal <| Zn [7, 2, 4, 17] ?_
     refine nx_againB (e' := [(7, _)]) (m := _) (H' := _) (by exact ⟨js ++ [jn], seen2, o ++ [r], _, _, rfl, ⟨hi2, hse2t hin, hnew, by rw [List.length_append, List.length_append]; simp; omega⟩, rfl, rfl⟩)
    ·
     refine at_skip <| nx_block_normal <| Zn [7, 2, 4, 17] ?_
     refine nx_againB (e' := [(7, _)]) (m := _) (H' := _) (by exact ⟨js ++ [jn], seen2, o, _, so, rfl, ⟨hi2, hse2f hin, hro, by rw [List.length_append]; omega⟩, rfl, rfl⟩)
   ·
    cases hb

end Go.Proofs.YtjeepldonhgohaaGreatDoor
