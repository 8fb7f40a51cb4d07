/- The store: At. -/
/- The value of a column: of the reference of layer 3, of the program. -/
/- The reference of layer 4: Range. -/
/- row.Value, to the world: what the comparator of the sort wants. -/
import Derived.Test.YtkgmgmkbgnkdnaaGreatEz
import Derived.Test.YtkgmgmkbgnkdnaaGreatKs2
import Derived.Test.YtkgmgmkbgnkdnaaGreatEx17
import Derived.WalkKit
import Derived.WalkSpells
import Derived.Sort.Grow
import Derived.Deep.Draws
import Derived.Lib.Hide
import Derived.LoopTactic
import Derived.Test.YtkgmgmkbgnkdnaaGreatWi2
namespace Go.Proofs.YtkgmgmkbgnkdnaaGreat
open Go.Proofs.Tryz
open Go Go.RowKit Gw
set_option linter.unusedVariables false
set_option linter.unusedSimpArgs false
set_option maxRecDepth 100000
attribute [local irreducible] Gw.At Gw.Nx Gw.Ops
theorem st_at (q : Option Addr) (cap : Nat) (l : List RecM) (M : List Chunk) (hRI : RecsIn M (.slice q l.length cap) l) (hlog : LogOk l) (hl : l.length ≤ 1000000) (k : Nat) (hk : k ≤ l.length) :
    Does Tryz.prog 12 #[.slice q l.length cap, .int .i64 (k : Int)] [M] (fun r H' => ∃ sp mb es ck lm, r = .tuple #[.pointer (some ⟨sp, 0, none⟩), .int .i64 0] ∧ MapM K2 es ck lm ∧ MapR lm (rowsOf (l.take k)) ∧ H' = [[(sp, .cells #[.map (some mb), .int .i64 (k : Int)] 108 (0, 0))], [(mb, .map es ck)], M]) := by
 have hml : maxLen = 9223372036854775807 := rfl
 obtain ⟨p9, cap9, e9, ⟨hol, hlc⟩, hg⟩ := id hRI
 injection e9 with e91 e92 e93
 subst e91 e93
 refine spec_enter func12 rfl ntmps12 rfl ?_
 intro u R
 refine Zb [0, 1] ?_
 refine Zq <| Zg <| Za Y <| Za Y <| Z0 <| Zx <| Zq <| Zq <| Zg <| Zm Y <| Zv (p_lss_nat (n := 0) Y Y) <| Zm Y ?_
 refine ops_split (t := 11) Y rfl (fun h1 => ?_) (fun h1 => ?_)
 ·
  exfalso; (cases h1; done)
 ·
  refine Zf Y Y <| Zf Y Y <| Yg (p_len_slice underlying25 Y) <| Yg (p_gtr_nat Y Y) <| Zv (p_pick_f Y Y) <| Z0 <| Zx ?_
  refine at_if Y (fun h2 => ?_) (fun h2 => ?_)
  ·
   exfalso; omega
  ·
   refine at_skip <| Zx <| Zq <| Zg <| Zc [] Y call28 Y rfl (st_new) ?_
   rintro _ _ ⟨_, ⟨sp, mb, rfl, rfl⟩, rfl⟩
   refine Za Y <| Z0 <| Zx <| Zq <| Zq <| Zg <| Zm Y <| Zm Y ?_
   (refine op_v (p_slice_slice_to underlying25 sizeOf36 Y Y ?_) ?_; (focus (first | omega | decide | (simp; done))))
   refine Zv (p_len_slice underlying25 Y) <| Zm Y <| Z0 <| Zn [6, 20, 21, 22] ?_
   refine Zx <| at_block <| Zb [22, 6, 20, 21] ?_
   refine at_loopB (e0 := [(22, _)]) (H0 := _) (n := _) (fun m e H => ∃ (i : Nat) (es : Array MapEntry) (ck : Nat) (lm : List ((Int × Int) × Value)), m = k - i ∧ (i ≤ k ∧ MapM K2 es ck lm ∧ MapR lm (rowsOf (l.take i))) ∧ e = [(22, .int .i64 (i : Int))] ∧ H = [[(sp, .cells #[.map (some mb), .int .i64 (i : Int)] 108 (0, 0))], [(mb, .map es ck)]]) (by exact ⟨0, #[], 0, [], rfl, ⟨Nat.zero_le _, mapM_new _, by rw [List.take_zero]; exact mapR_nil⟩, rfl, rfl⟩) (by repeat (first | exact Pull.nil _ | (apply Pull.cons; (focus (repeat (first | exact One.here _ _ | apply One.there)))))) ?_
   rintro _ _ _ ⟨i, es, ck, lm, rfl, ⟨hi, hm, hR⟩, rfl, rfl⟩
   refine Zq <| Zg <| Zv (p_lss_nat Y Y) <| Z0 <| Zx <| Zq ?_
   refine at_if Y (fun hlt => ?_) (fun hlt => ?_)
   ·
    obtain ⟨r, hr⟩ : ∃ r, l[i]? = some r := ⟨_, List.getElem?_eq_getElem (by omega)⟩
    obtain ⟨hOr, g, off, cur, T, zz, rfl, hm9, hsz, hex⟩ := hg i r hr
    obtain ⟨hA, h3⟩ := hlog i r hr
    have hrp := hA.pos
    obtain ⟨hso, hle⟩ := hlog.rows i (by omega)
    refine at_skip <| Zx <| Zq <| at_block <| Zq <| Zg ?_
    (refine op_v (p_indexAddr_nat underlying25 sizeOf36 Y Y ?_) ?_; (focus (first | omega | decide | (simp; done))))
    refine op_rm (cs := [(g, .cells cur T zz)]) (by simp [hm9]) (p_load_agg (cs := #[.int .i64 r.p, .slice r.q r.cs.length r.cap]) isAgg36 sizeOf36 Y (by omega) hex) rfl rfl ?_
    refine Ze (w_alloc zeroValue36 (cs := #[_, _]) rfl) ?_
    rintro _ _ ⟨rb, rfl, rfl⟩
    refine Ze (w_store_agg sizeOf36 Y Y (by (simp [Value.oneCell']; done)) (by repeat (first | exact Upd.here _ | apply Upd.there)) (by exact (rfl : _ = (#[.int .i64 r.p, .slice r.q r.cs.length r.cap] : Array Value))) (by first | rfl | (simp; done)) (by first | omega | decide | (simp; done)) (by exact free_zero _)) ?_
    rintro _ _ ⟨rfl, rfl⟩
    refine Z0 <| Zx <| Zq <| Zg <| Zm Y <| Zo (by repeat (first | exact Has.here _ | apply Has.there)) (p_load_agg (cs := #[_, _]) isAgg36 sizeOf36 Y (by first | omega | decide | (simp; done)) (by rfl)) ?_
    refine Zc [_, _] Y call29 Y rfl (st_apply sp mb (i : Int) r.p es ck lm (rowsOf (l.take i)) M r.q r.cap r.cs hm hR hOr hso hle hA) ?_
    rintro _ _ ⟨_, ⟨rfl, es2, ck2, lm2, hm2, hR2, rfl⟩, rfl⟩
    have hR3 : MapR lm2 (rowsOf (l.take (i + 1))) := by rw [List.take_add_one, hr]; show MapR lm2 (rowsOf (l.take i ++ [r])); rw [rowsOf_snoc]; exact hR2
    rw [show r.p = ((i + 1 : Nat) : Int) by rw [hrp]; rfl]
    refine Zv (p_neq_nat (n := 0) Y Y) <| Z0 <| Zx ?_
    refine at_if Y (fun h4 => ?_) (fun h4 => ?_)
    ·
     exfalso; exact h4 rfl
    ·
     refine at_skip <| nx_block_normal <| Zx <| Zg <| Ya (n := 1) Y Y <| Zm Y <| Z0 <| Zn [22, 6, 20, 21] ?_
     refine nx_againB (e' := [(22, _)]) (m := _) (H' := _) (by exact ⟨i + 1, es2, ck2, lm2, rfl, ⟨by omega, hm2, hR3⟩, rfl, rfl⟩)
   ·
    have ei : i = k := by omega
    subst ei
    refine at_exit <| Zt <| Zt <| nx_block_exit <| Zx <| Zq <| Zg <| Zm Y <| Za Y <| Za Y <| Z0 <| Zx <| at_ret ?_
    refine nx_end2 rfl results12 Y Y (by exact ⟨sp, mb, es, ck, lm, rfl, hm, hR, rfl⟩)

end Go.Proofs.YtkgmgmkbgnkdnaaGreat

namespace Go.Proofs.YtkgmgmkbgnkdnaaGreat
open Go.Proofs.Tryz
open Go Go.RowKit Gw
set_option linter.unusedVariables false
set_option linter.unusedSimpArgs false
set_option maxRecDepth 100000
attribute [local irreducible] Gw.At Gw.Nx Gw.Ops
def valN (r : RowM) (c : Nat) : Int := if c = 0 then r.k else if c = 1 then r.v.a else if c = 2 then r.v.b else r.v.c
end Go.Proofs.YtkgmgmkbgnkdnaaGreat


namespace Go.Proofs.YtkgmgmkbgnkdnaaGreat
open Go.Proofs.Tryz
open Go Go.RowKit Gw
set_option linter.unusedVariables false
set_option linter.unusedSimpArgs false
set_option maxRecDepth 100000
attribute [local irreducible] Gw.At Gw.Nx Gw.Ops
def placeV (c : Nat) (out : List RowM) (v : Int) : Nat := (out.reverse.dropWhile (fun r => decide (v < valN r c))).length
def insV (c : Nat) (out : List RowM) (x : RowM) : List RowM := out.take (placeV c out (valN x c)) ++ [x] ++ out.drop (placeV c out (valN x c))
def inR (t : Int) (c : Nat) (lo hi : Int) (r : RowM) : Bool := decide (r.t = t ∧ lo ≤ valN r c ∧ valN r c ≤ hi)
def rangeL (rs : List RowM) (t : Int) (c : Nat) (lo hi : Int) : List RowM := (rs.filter (inR t c lo hi)).foldl (insV c) []
end Go.Proofs.YtkgmgmkbgnkdnaaGreat


namespace Go.Proofs.YtkgmgmkbgnkdnaaGreat
open Go.Proofs.Tryz
open Go Go.RowKit Gw
set_option linter.unusedVariables false
set_option linter.unusedSimpArgs false
set_option maxRecDepth 100000
attribute [local irreducible] Gw.At Gw.Nx Gw.Ops
open Go.Sort
def valL (r : RowM) (c : Int) : Int := if c = 0 then r.k else if c = 1 then r.v.a else if c = 2 then r.v.b else if c = 3 then r.v.c else 0
set_option maxHeartbeats 1000000 in
theorem value_calls (r : RowM) (c : Int) (hc : 0 ≤ c ∧ c ≤ 3) (W : World) : Calls Tryz.prog 55 #[.agg #[.int .i64 r.t, .int .i64 r.k, .int .i64 r.v.a, .int .i64 r.v.b, .int .i64 r.v.c], .int .i64 c] W fun e w' => e = .returned (.int .i64 (valL r c)) ∧ ∃ (q : Nat) (o : Obj), w' = grow (W.drewN q) #[o] := by
  obtain ⟨t, k, ⟨va, vb, vc⟩⟩ := r
  rcases (by omega : c = 0 ∨ c = 1 ∨ c = 2 ∨ c = 3) with rfl | rfl | rfl | rfl
  all_goals
    go_enter func55, ntmps55
    go_wp2
    go_ret
    exact ⟨rfl, 0, _, by rw [alloc_eq_grow]; rfl⟩
def orL (x y : Int) : Int := if x = 0 then y else x
theorem or_calls (b : Nat) (x y : Int) (W : World) (h0 : W.cell? ⟨b, 0, none⟩ = some (.int .i64 x)) (h1 : W.cell? ⟨b, 1, none⟩ = some (.int .i64 y)) : Calls Tryz.prog 88 #[.slice (some ⟨b, 0, none⟩) 2 2] W fun e w' => e = .returned (.int .i64 (orL x y)) ∧ w' = W := by
  generalize hz : orL x y = z
  have HZ := Lib.hid hz
  clear hz
  go_enter func88, ntmps88
  go_wp2
  go_loop [5, 8] (fun _ i => ∃ (j : Nat), i = .int .i64 j ∧ (j = 0 ∨ (j = 1 ∧ x = 0) ∨ (j = 2 ∧ x = 0 ∧ y = 0))) (fun _ i => 2 - (intOf i).toNat)
  case atStart => exact ⟨0, rfl, .inl rfl⟩
  case round =>
    obtain ⟨j, rfl, hj⟩ := hrel
    rcases hj with rfl | ⟨rfl, hx⟩ | ⟨rfl, hx, hy⟩
    · by_cases hx : x = 0
      · subst hx
        go_wp2
        go_round
        case rel => exact ⟨1, by go_num, by simp⟩
        case measure => simp [intOf]
      · go_wp2
        go_ret
        exact ⟨by rw [← HZ.out]; unfold orL; rw [if_neg hx]; rfl, rfl⟩
    · subst hx
      by_cases hy : y = 0
      · subst hy
        go_wp2
        go_round
        case rel => exact ⟨2, by go_num, by simp⟩
        case measure => simp [intOf]
      · go_wp2
        go_ret
        exact ⟨by rw [← HZ.out]; unfold orL; rw [if_pos rfl]; rfl, rfl⟩
    · subst hx hy
      go_wp2
      go_ret
      exact ⟨by rw [← HZ.out]; rfl, rfl⟩

end Go.Proofs.YtkgmgmkbgnkdnaaGreat
