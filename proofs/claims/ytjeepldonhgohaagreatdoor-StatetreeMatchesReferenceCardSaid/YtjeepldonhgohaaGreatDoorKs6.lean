/- The store: At. -/
/- The reference of layer 4: At, Rows, SameRows. -/
/- The value of a column: of the reference of layer 3, of the program. -/
import Derived.Test.YtjeepldonhgohaaGreatDoorEz
import Derived.Test.YtjeepldonhgohaaGreatDoorKs2
namespace Go.Proofs.YtjeepldonhgohaaGreatDoor
open Go.Proofs.Tryz
open Go Go.RowKit Gw
set_option linter.unusedVariables false
set_option linter.unusedSimpArgs false
set_option maxRecDepth 100000
attribute [local irreducible] Gw.At Gw.Nx Gw.Ops
theorem st_at (q : Option Addr) (cap : Nat) (l : List RecM) (M : List Chunk) (hRI : RecsIn M (.slice q l.length cap) l) (hlog : LogOk l) (hl : l.length ≤ 1000000) (k : Nat) (hk : k ≤ l.length) :
    Does Tryz.prog 30 #[.slice q l.length cap, .int .i64 (k : Int)] [M] (fun r H' => ∃ sp mb es ck lm, r = .tuple #[.pointer (some ⟨sp, 0, none⟩), .int .i64 0] ∧ MapM K2 es ck lm ∧ MapR lm (rowsOf (l.take k)) ∧ H' = [[(sp, .cells #[.map (some mb), .int .i64 (k : Int)] 154 (0, 0))], [(mb, .map es ck)], M]) := by
 have hml : maxLen = 9223372036854775807 := rfl
 obtain ⟨p9, cap9, e9, ⟨hol, hlc⟩, hg⟩ := id hRI
 injection e9 with e91 e92 e93
 subst e91 e93
 refine spec_enter func30 rfl ntmps30 rfl ?_
 intro u R
 refine Zb [0, 1] ?_
 refine Zq <| Zg <| Za Y <| Za Y <| Z0 <| Zx <| Zq <| Zq <| Zg <| Zm Y ?_
 first | refine op_v (p_lss_nat (n := 0) Y Y) ?_ | refine op_v (p_lss Y Y) ?_
 refine Zm Y ?_
 first | refine ops_split (t := 11) Y rfl (fun h1 => ?_) (fun h1 => ?_) | refine ops_split_bool (t := 11) Y rfl (fun h1 => ?_) (fun h1 => ?_)
 ·
  exfalso; first | exact h1 rfl | (cases h1; done) | contradiction | omega | (simp_all; done)
 ·
  refine Zf Y Y <| Zf Y Y <| op_wg Y (p_len_slice underlying69 Y) rfl rfl ?_
  first | refine op_wg Y (p_gtr_nat Y Y) rfl rfl ?_ | refine op_wg Y (p_gtr Y Y) rfl rfl ?_
  refine Zv (p_pick_f Y Y) <| Z0 <| Zx ?_
  first | refine at_if Y (fun h2 => ?_) (fun h2 => ?_) | refine at_if_bool Y (fun h2 => ?_) (fun h2 => ?_)
  ·
   exfalso; first | exact h2 rfl | (cases h2; done) | contradiction | omega | (simp_all; done)
  ·
   refine at_skip <| Zx <| Zq <| Zg <| Zc [] Y call72 Y rfl (st_new) ?_
   rintro _ _ ⟨_, ⟨sp, mb, rfl, rfl⟩, rfl⟩
   refine Za Y <| Z0 <| Zx <| Zq <| Zq <| Zg <| Zm Y <| Zm Y ?_
   (refine op_v (p_slice_slice_to underlying69 sizeOf68 Y Y ?_) ?_; (focus (first | omega | decide | (simp; done))))
   refine Zv (p_len_slice underlying69 Y) <| Zm Y <| Z0 <| Zn [6, 20, 21, 22] ?_
   refine Zx <| at_block <| Zb [22, 6, 20, 21] ?_
   refine at_loopB (e0 := [(22, _)]) (H0 := _) (n := _) (fun m e H => ∃ (i : Nat) (es : Array MapEntry) (ck : Nat) (lm : List ((Int × Int) × Value)), m = k - i ∧ (i ≤ k ∧ MapM K2 es ck lm ∧ MapR lm (rowsOf (l.take i))) ∧ e = [(22, .int .i64 (i : Int))] ∧ H = [[(sp, .cells #[.map (some mb), .int .i64 (i : Int)] 154 (0, 0))], [(mb, .map es ck)]]) (by exact ⟨0, #[], 0, [], rfl, ⟨Nat.zero_le _, mapM_new _, by rw [List.take_zero]; exact mapR_nil⟩, rfl, rfl⟩) (by repeat (first | exact Pull.nil _ | (apply Pull.cons; (focus (repeat (first | exact One.here _ _ | apply One.there)))))) ?_
   rintro _ _ _ ⟨i, es, ck, lm, rfl, ⟨hi, hm, hR⟩, rfl, rfl⟩
   refine Zq <| Zg ?_
   first | refine op_v (p_lss_nat Y Y) ?_ | refine op_v (p_lss Y Y) ?_
   refine Z0 <| Zx <| Zq ?_
   first | refine at_if Y (fun hlt => ?_) (fun hlt => ?_) | refine at_if_bool Y (fun hlt => ?_) (fun hlt => ?_)
   ·
    obtain ⟨r, hr⟩ : ∃ r, l[i]? = some r := ⟨_, List.getElem?_eq_getElem (by omega)⟩
    obtain ⟨hOr, g, off, cur, T, zz, rfl, hm9, hsz, hex⟩ := hg i r hr
    obtain ⟨hA, h3⟩ := hlog i r hr
    have hrp := hA.pos
    obtain ⟨hso, hle⟩ := hlog.rows i (by omega)
    refine at_skip <| Zx <| Zq <| at_block <| Zq <| Zg ?_
    (refine op_v (p_indexAddr_nat underlying69 sizeOf68 Y Y ?_) ?_; (focus (first | omega | decide | (simp; done))))
    refine op_rm (cs := [(g, .cells cur T zz)]) (by simp [hm9]) (p_load_agg (cs := #[.int .i64 r.p, .slice r.q r.cs.length r.cap]) isAgg68 sizeOf68 Y (by omega) hex) rfl rfl ?_
    refine Ze (w_alloc zeroValue68 (cs := #[_, _]) rfl) ?_
    rintro _ _ ⟨rb, rfl, rfl⟩
    refine Ze (w_store_agg sizeOf68 Y Y (by first | (simp [Value.oneCell']; done) | (simp [Value.oneCell', Value.cells]; done)) (by repeat (first | exact Upd.here _ | apply Upd.there)) (by exact (rfl : _ = (#[.int .i64 r.p, .slice r.q r.cs.length r.cap] : Array Value))) (by first | rfl | (simp; done)) (by first | omega | decide | (simp; done)) (by exact free_zero _)) ?_
    rintro _ _ ⟨rfl, rfl⟩
    refine Z0 <| Zx <| Zq <| Zg <| Zm Y <| Zo (by repeat (first | exact Has.here _ | apply Has.there)) (p_load_agg (cs := #[_, _]) isAgg68 sizeOf68 Y (by first | omega | decide | (simp; done)) (by rfl)) ?_
    refine Zc [_, _] Y call73 Y rfl (st_apply sp mb (i : Int) r.p es ck lm (rowsOf (l.take i)) M r.q r.cap r.cs hm hR hOr hso hle hA) ?_
    rintro _ _ ⟨_, ⟨rfl, es2, ck2, lm2, hm2, hR2, rfl⟩, rfl⟩
    have hR3 : MapR lm2 (rowsOf (l.take (i + 1))) := by rw [List.take_add_one, hr]; show MapR lm2 (rowsOf (l.take i ++ [r])); rw [rowsOf_snoc]; exact hR2
    rw [show r.p = ((i + 1 : Nat) : Int) by rw [hrp]; rfl]
    first | refine op_v (p_neq_nat (n := 0) Y Y) ?_ | refine op_v (p_neq Y Y) ?_
    refine Z0 <| Zx ?_
    first | refine at_if Y (fun h4 => ?_) (fun h4 => ?_) | refine at_if_bool Y (fun h4 => ?_) (fun h4 => ?_)
    ·
     exfalso; first | exact h4 rfl | (cases h4; done) | contradiction | omega | (simp_all; done)
    ·
     refine at_skip <| nx_block_normal <| Zx <| Zg ?_
     first | (refine op_v (p_add_nat (n := 1) Y Y ?_) ?_; (focus (omega))) | (refine op_v (p_add Y Y (IntWalk.i64_in _ ?_)) ?_; (focus (omega)))
     refine Zm Y <| Z0 <| Zn [22, 6, 20, 21] ?_
     refine nx_againB (e' := [(22, _)]) (m := _) (H' := _) (by exact ⟨i + 1, es2, ck2, lm2, rfl, ⟨by omega, hm2, hR3⟩, rfl, rfl⟩)
   ·
    have ei : i = k := by omega
    subst ei
    refine at_exit <| Zt <| Zt <| nx_block_exit <| Zx <| Zq <| Zg <| Zm Y <| Za Y <| Za Y <| Z0 <| Zx <| at_ret ?_
    refine nx_end2 rfl results30 Y Y (by exact ⟨sp, mb, es, ck, lm, rfl, hm, hR, rfl⟩)

end Go.Proofs.YtjeepldonhgohaaGreatDoor

namespace Go.Proofs.YtjeepldonhgohaaGreatDoor
open Go.Proofs.Tryz
open Go Go.RowKit Gw
set_option linter.unusedVariables false
set_option linter.unusedSimpArgs false
set_option maxRecDepth 100000
attribute [local irreducible] Gw.At Gw.Nx Gw.Ops
theorem r4_apply_ok (sp : Nat) (p rp : Int) (v : Value) (rs : List RowM) (sv M : List Chunk) (q : Option Addr) (capc : Nat) (cs : List Chg) (hrow : RowS 5 74 v rs.length (rowCells rs) sv) (hO : ChgsIn M (.slice q cs.length capc) cs) (hs : SortedR rs) (hn : rs.length ≤ 2000) (hp : 0 ≤ p ∧ p ≤ 10000) (hA : AppOk rs p rp cs) :
    Does Tryz.prog 79 #[.pointer (some ⟨sp, 0, none⟩), .agg #[.int .i64 rp, .slice q cs.length capc]] [[(sp, .cells #[v, .int .i64 p] 121 (0, 0))], sv, M] (fun r H' => r = .int .i64 0 ∧ ∃ v' sv', RowS 5 74 v' (putAllR rs cs).length (rowCells (putAllR rs cs)) sv' ∧ H' = [[(sp, .cells #[v', .int .i64 rp] 121 (0, 0))], sv', M]) :=
  DoesE.mono (r4_apply sp p rp v rs sv M q capc cs hrow hO hs hn hp) (fun r H' h => by
    rcases h with ⟨_, v', sv', rfl, h, rfl⟩ | ⟨h, _⟩
    · exact ⟨rfl, v', sv', h, rfl⟩
    · exact absurd hA h) (fun _ _ h => h)

theorem r4_at (q : Option Addr) (cap : Nat) (l : List RecM) (M : List Chunk) (hRI : RecsIn M (.slice q l.length cap) l) (hlog : LogOk l) (hl : l.length ≤ 9000) (k : Nat) (hk : k ≤ l.length) :
    Does Tryz.prog 33 #[.slice q l.length cap, .int .i64 (k : Int)] [M] (fun r H' => ∃ sp w sv, r = .tuple #[.pointer (some ⟨sp, 0, none⟩), .int .i64 0] ∧ RowS 5 74 w (rowsOf (l.take k)).length (rowCells (rowsOf (l.take k))) sv ∧ H' = [[(sp, .cells #[w, .int .i64 (k : Int)] 121 (0, 0))], sv, M]) := by
 have hml : maxLen = 9223372036854775807 := rfl
 obtain ⟨p9, cap9, e9, ⟨hol, hlc⟩, hg⟩ := id hRI
 injection e9 with e91 e92 e93
 subst e91 e93
 refine spec_enter func33 rfl ntmps33 rfl ?_
 intro u R
 refine Zb [0, 1] ?_
 refine Zq <| Zg <| Za Y <| Za Y <| Z0 <| Zx <| Zq <| Zq <| Zg <| Zm Y ?_
 first | refine op_v (p_lss_nat (n := 0) Y Y) ?_ | refine op_v (p_lss Y Y) ?_
 refine Zm Y ?_
 first | refine ops_split (t := 11) Y rfl (fun h1 => ?_) (fun h1 => ?_) | refine ops_split_bool (t := 11) Y rfl (fun h1 => ?_) (fun h1 => ?_)
 ·
  exfalso; first | exact h1 rfl | (cases h1; done) | contradiction | omega | (simp_all; done)
 ·
  refine Zf Y Y <| Zf Y Y <| op_wg Y (p_len_slice underlying69 Y) rfl rfl ?_
  first | refine op_wg Y (p_gtr_nat Y Y) rfl rfl ?_ | refine op_wg Y (p_gtr Y Y) rfl rfl ?_
  refine Zv (p_pick_f Y Y) <| Z0 <| Zx ?_
  first | refine at_if Y (fun h2 => ?_) (fun h2 => ?_) | refine at_if_bool Y (fun h2 => ?_) (fun h2 => ?_)
  ·
   exfalso; first | exact h2 rfl | (cases h2; done) | contradiction | omega | (simp_all; done)
  ·
   refine at_skip <| Zx <| Zq <| Zg <| Zc [] Y call77 Y rfl (r4_new) ?_
   rintro _ _ ⟨_, ⟨sp, rfl, rfl⟩, rfl⟩
   refine Za Y <| Z0 <| Zx <| Zq <| Zq <| Zg <| Za Y <| Z0 <| Zn [0, 1, 6, 7] ?_
   refine Zx <| at_block <| at_nil ?_
   refine Zb [7, 0, 1, 6] ?_
   refine at_loopB (e0 := [(7, _)]) (H0 := _) (n := _) (fun m e H => ∃ (i : Nat) (w : Value) (sv : List Chunk), m = k - i ∧ (i ≤ k ∧ RowS 5 74 w (rowsOf (l.take i)).length (rowCells (rowsOf (l.take i))) sv) ∧ e = [(7, .int .i64 (i : Int))] ∧ H = [[(sp, .cells #[w, .int .i64 (i : Int)] 121 (0, 0))], sv]) (by exact ⟨0, .slice none 0 0, [], rfl, ⟨Nat.zero_le _, by rw [List.take_zero]; exact rowS_nil 5 _⟩, rfl, rfl⟩) (by repeat (first | exact Pull.nil _ | (apply Pull.cons; (focus (repeat (first | exact One.here _ _ | apply One.there)))))) ?_
   rintro _ _ _ ⟨i, w, sv, rfl, ⟨hi, hrw⟩, rfl, rfl⟩
   refine Zq <| Zq <| Zg <| Zm Y <| Zm Y ?_
   first | refine op_v (p_lss_nat Y Y) ?_ | refine op_v (p_lss Y Y) ?_
   refine Z0 <| Zx ?_
   first | refine at_if Y (fun hlt => ?_) (fun hlt => ?_) | refine at_if_bool Y (fun hlt => ?_) (fun hlt => ?_)
   ·
    obtain ⟨r, hr⟩ : ∃ r, l[i]? = some r := ⟨_, List.getElem?_eq_getElem (by omega)⟩
    obtain ⟨hOr, g, off, cur, T, zz, rfl, hm9, hsz, hex⟩ := hg i r hr
    obtain ⟨hA, h3⟩ := hlog i r hr
    have hrp := hA.pos
    obtain ⟨hso, hle⟩ := hlog.rows i (by omega)
    refine at_skip <| Zx <| Zq <| at_block <| Zq <| Zg <| Zm Y <| Zm Y <| Zm Y ?_
    (refine op_v (p_indexAddr_nat underlying69 sizeOf68 Y Y ?_) ?_; (focus (omega)))
    refine op_rm (cs := [(g, .cells cur T zz)]) (by simp [hm9]) (p_load_agg (cs := #[.int .i64 r.p, .slice r.q r.cs.length r.cap]) isAgg68 sizeOf68 Y (by omega) hex) rfl rfl ?_
    refine Zc [_, _] Y call79 Y rfl (r4_apply_ok sp (i : Int) r.p w (rowsOf (l.take i)) sv M r.q r.cap r.cs hrw hOr hso hle (by omega) hA) ?_
    rintro _ _ ⟨_, ⟨rfl, v2, sv2, hrw2, rfl⟩, rfl⟩
    have hrw3 : RowS 5 74 v2 (rowsOf (l.take (i + 1))).length (rowCells (rowsOf (l.take (i + 1)))) sv2 := by rw [List.take_add_one, hr]; show RowS 5 74 v2 (rowsOf (l.take i ++ [r])).length (rowCells (rowsOf (l.take i ++ [r]))) sv2; rw [rowsOf_snoc]; exact hrw2
    rw [show r.p = ((i + 1 : Nat) : Int) by rw [hrp]; rfl]
    refine Za Y <| Z0 <| Zx <| Zq <| Zg <| Zm Y ?_
    first | refine op_v (p_neq_nat (n := 0) Y Y) ?_ | refine op_v (p_neq Y Y) ?_
    refine Z0 <| Zx ?_
    first | refine at_if Y (fun h4 => ?_) (fun h4 => ?_) | refine at_if_bool Y (fun h4 => ?_) (fun h4 => ?_)
    ·
     exfalso; first | exact h4 rfl | (cases h4; done) | contradiction | omega | (simp_all; done)
    ·
     refine at_skip <| nx_block_normal <| Zx <| Zg <| Zm Y ?_
     first | (refine op_v (p_add_nat (n := 1) Y Y ?_) ?_; (focus (omega))) | (refine op_v (p_add Y Y (IntWalk.i64_in _ ?_)) ?_; (focus (omega)))
     refine Za Y <| Z0 <| Zn [7, 0, 1, 6] ?_
     refine nx_againB (e' := [(7, _)]) (m := _) (H' := _) (by exact ⟨i + 1, v2, sv2, rfl, ⟨by omega, hrw3⟩, rfl, rfl⟩)
   ·
    have ei : i = k := by omega
    subst ei
    refine at_exit <| Zt <| Zt <| nx_block_exit <| Zx <| Zq <| Zg <| Zm Y <| Za Y <| Za Y <| Z0 <| Zx <| at_ret ?_
    refine nx_end2 rfl results33 Y Y (by exact ⟨sp, w, sv, rfl, hrw, rfl⟩)

end Go.Proofs.YtjeepldonhgohaaGreatDoor

namespace Go.Proofs.YtjeepldonhgohaaGreatDoor
open Go.Proofs.Tryz
open Go Go.RowKit Gw
set_option linter.unusedVariables false
set_option linter.unusedSimpArgs false
set_option maxRecDepth 100000
attribute [local irreducible] Gw.At Gw.Nx Gw.Ops
def valN (r : RowM) (c : Nat) : Int := if c = 0 then r.k else if c = 1 then r.v.a else if c = 2 then r.v.b else r.v.c
theorem valN_at {r : RowM} {c : Nat} (h1 : 1 ≤ c) (h3 : c ≤ 3) : (#[.int .i64 r.t, .int .i64 r.k, .int .i64 r.v.a, .int .i64 r.v.b, .int .i64 r.v.c] : Array Value)[0 + 2 + (c - 1)]? = some (.int .i64 (valN r c)) := by
  rcases (by omega : c = 1 ∨ c = 2 ∨ c = 3) with rfl | rfl | rfl <;> rfl

theorem r3_value (r : RowM) (c : Nat) (hc : c ≤ 3) : DoesR Tryz.prog 48 #[.agg #[.int .i64 r.t, .int .i64 r.k, .int .i64 r.v.a, .int .i64 r.v.b, .int .i64 r.v.c], .int .i64 (c : Int)] [] (.int .i64 (valN r c)) := by
 refine spec_enter func48 rfl ntmps48 rfl ?_
 intro u R
 refine Zb [0, 1] ?_
 refine Zq <| Zg <| Ze (w_box Y (cs := #[_, _, _, _, _]) rfl) ?_
 rintro _ _ ⟨b1, rfl, rfl⟩
 refine Za Y <| Z0 <| Zx <| Zq <| Zq <| Zg <| Zm Y <| Zv (p_eql_nat (n := 0) Y Y) <| Z0 <| Zx ?_
 refine at_if Y (fun h0 => ?_) (fun h0 => ?_)
 ·
  refine Zq <| Zg <| Zh 1 underlying74 rfl rfl sizeOf3 Y <| Zl isAgg3 Y ?_
  refine Za Y <| Z0 <| Zx <| at_ret <| Zt ?_
  refine nx_end1 rfl results48 Y (by exact ⟨by unfold valN; rw [if_pos (by omega)], rfl⟩)
 ·
  refine at_skip <| Zx <| Zq <| Zq <| Zg <| Zm Y <| Zr [_, _, _] Y call87 Y rfl (r3_within (c : Int) 1 3) ?_
  rintro _ _ ⟨rfl, rfl⟩
  refine Z0 <| Zx ?_
  refine at_if Y (fun h1 => ?_) (fun h1 => ?_)
  ·
   refine Zq <| Zg <| Zm Y ?_
   (refine op_v (p_sub_nat (n := 1) Y Y ?_ ?_) ?_; (focus (omega)); (focus (omega)))
   refine Zh 2 underlying74 rfl rfl sizeOf47 Y ?_
   (refine op_v (p_indexAddr_arr underlying47 sizeOf3 Y Y ?_) ?_; (focus (omega)))
   refine Zo (by repeat (first | exact Has.here _ | apply Has.there)) (p_load (v := .int .i64 (valN r c)) isAgg3 Y (by simpa using valN_at (r := r) (c := c) (by omega) hc)) ?_
   refine Za Y <| Z0 <| Zx <| at_ret <| Zt ?_
   refine nx_end1 rfl results48 Y (by exact ⟨rfl, rfl⟩)
  ·
   refine at_skip <| Zx <| Zq <| Zg <| Za Y <| Z0 <| Zx <| at_ret ?_
   refine nx_end1 rfl results48 Y (by exfalso; omega)

end Go.Proofs.YtjeepldonhgohaaGreatDoor
