/- The store: the predicate of Range. -/
/- The store: chosen, over a contract of the sort. -/
/- The store: chosen, called by Range. -/
import Derived.Test.YtkgmgmkbgnkdnaaGreatEz
import Derived.Test.YtkgmgmkbgnkdnaaGreatKs4

namespace Go.Proofs.YtkgmgmkbgnkdnaaGreat
open Go.Proofs.Tryz
open Go Go.RowKit Gw
set_option linter.unusedVariables false
set_option linter.unusedSimpArgs false
set_option maxRecDepth 100000
attribute [local irreducible] Gw.At Gw.Nx Gw.Ops
open Go.Sort
theorem sat_grow {u w : World} {H : Hp} (h : Sat u H w) (q : Nat) (os : Array Obj) : Sat u H (grow (w.drewN q) os) := by
  refine ⟨h.os, h.tape, h.output, h.nodup, fun p hp => ?_⟩
  have hlt := h.lt hp
  show (w.heap ++ os)[p.1]? = _
  rw [Array.getElem?_append_left hlt]
  exact h.get p hp
theorem valL_N (r : RowM) (c : Nat) (hc : c ≤ 3) : valL r (c : Int) = valN r c := by
  rcases (by omega : c = 0 ∨ c = 1 ∨ c = 2 ∨ c = 3) with rfl | rfl | rfl | rfl <;> rfl
theorem rw_value (r : RowM) (c : Nat) (hc : c ≤ 3) : DoesR Tryz.prog 55 #[.agg #[.int .i64 r.t, .int .i64 r.k, .int .i64 r.v.a, .int .i64 r.v.b, .int .i64 r.v.c], .int .i64 (c : Int)] [] (.int .i64 (valN r c)) := fun u R w hs =>
  (value_calls r (c : Int) (by omega) w).mono (by
    rintro e w' ⟨rfl, q, o, rfl⟩
    exact .inl ⟨_, [], rfl, ⟨by rw [valL_N r c hc], rfl⟩, sat_grow hs q _⟩)

theorem range_in (r : RowM) (t : Int) (c : Nat) (lo hi : Int) (hc : c ≤ 3) (b1 b2 b3 b4 : Nat) : DoesR Tryz.prog 70 #[.agg #[.int .i64 r.t, .int .i64 r.k, .int .i64 r.v.a, .int .i64 r.v.b, .int .i64 r.v.c], .pointer (some ⟨b1, 0, none⟩), .pointer (some ⟨b2, 0, none⟩), .pointer (some ⟨b3, 0, none⟩), .pointer (some ⟨b4, 0, none⟩)] [[(b1, .cells #[.int .i64 (c : Int)] 3 (0, 0))], [(b2, .cells #[.int .i64 t] 3 (0, 0))], [(b3, .cells #[.int .i64 lo] 3 (0, 0))], [(b4, .cells #[.int .i64 hi] 3 (0, 0))]] (.bool (inR t c lo hi r)) := by
 refine spec_enter func70 rfl ntmps70 rfl ?_
 intro u R
 refine Zb [0, 1, 2, 3, 4] ?_
 refine Zq <| Zg <| Ze (w_box Y (cs := #[_, _, _, _, _]) rfl) ?_
 rintro _ _ ⟨b1, rfl, rfl⟩
 refine Za Y <| Z0 <| Zx <| Zq <| Zg <| Zo (by repeat (first | exact Has.here _ | apply Has.there)) (p_load_agg (cs := #[_, _, _, _, _]) isAgg62 sizeOf62 Y (by exact Nat.le_refl _) (by rfl)) ?_
 refine Zl isAgg3 Y ?_
 refine Zr [_, _] Y call55 Y rfl (rw_value r c hc) ?_
 rintro _ _ ⟨rfl, rfl⟩
 refine Za Y <| Z0 <| Zx <| Zq <| Zg <| Zh 0 underlying62 rfl rfl sizeOf3 Y <| Zl isAgg3 Y ?_
 refine Zl isAgg3 Y ?_
 refine Zv (p_eql Y Y) <| Zm Y ?_
 refine ops_split (t := 15) Y rfl (fun h1 => ?_) (fun h1 => ?_)
 ·
  refine Zf Y Y <| Yl isAgg3 Y ?_
  refine Yg (p_geq Y Y) <| Zv (p_pick_t Y Y) <| Zm Y ?_
  refine ops_split (t := 20) Y rfl (fun h2 => ?_) (fun h2 => ?_)
  ·
   refine Zf Y Y <| Yl isAgg3 Y ?_
   refine Yg (p_leq Y Y) <| Zv (p_pick_t Y Y) <| Za Y <| Z0 <| Zn [6] ?_
   refine Zx <| at_ret ?_
   refine nx_end1 rfl results70 Y (by exact ⟨by unfold inR; (simp_all; done), rfl⟩)
  ·
   refine op_skip Y rfl <| op_skip Y rfl <| op_skip Y rfl <| Zv (p_pick_f Y Y) <| Za Y <| Z0 <| Zn [6] ?_
   refine Zx <| at_ret ?_
   refine nx_end1 rfl results70 Y (by exact ⟨by unfold inR; (congr 1; simp; omega), rfl⟩)
 ·
  refine op_skip Y rfl <| op_skip Y rfl <| op_skip Y rfl <| Zv (p_pick_f Y Y) <| Zm Y <| op_skip Y rfl <| op_skip Y rfl <| op_skip Y rfl <| Zv (p_pick_f Y Y) <| Za Y <| Z0 <| Zn [6] ?_
  refine Zx <| at_ret ?_
  refine nx_end1 rfl results70 Y (by exact ⟨by unfold inR; (simp_all; done), rfl⟩)

end Go.Proofs.YtkgmgmkbgnkdnaaGreat

namespace Go.Proofs.YtkgmgmkbgnkdnaaGreat
open Go.Proofs.Tryz
open Go Go.RowKit Gw
set_option linter.unusedVariables false
set_option linter.unusedSimpArgs false
set_option maxRecDepth 100000
attribute [local irreducible] Gw.At Gw.Nx Gw.Ops
theorem nodup_lt : ∀ (n : Nat) (js : List Nat), js.Nodup → (∀ j ∈ js, j < n) → js.length ≤ n
  | 0, js, _, h => by
    cases js with
    | nil => simp
    | cons a l => exact absurd (h a (by simp)) (Nat.not_lt_zero _)
  | n + 1, js, hn, h => by
    by_cases hm : n ∈ js
    · have h1 := nodup_lt n (js.erase n) (hn.erase n) (fun j hj => by
        have h2 := (hn.mem_erase_iff).1 hj
        have h3 := h j h2.2
        have h4 := h2.1
        omega)
      rw [List.length_erase_of_mem hm] at h1
      omega
    · have h1 := nodup_lt n js hn (fun j hj => by
        have h3 := h j hj
        have h4 : j ≠ n := fun e => hm (e ▸ hj)
        omega)
      omega
def pairR (r : RowM) : (Int × Int) × Value := ((r.t, r.k), rowV r)
theorem pairR_inj {a b : RowM} (h : pairR a = pairR b) : a = b := rowV_inj (Prod.mk.inj h).2
theorem perm_pairs {a b : List RowM} (ha : (a.map pairR).Nodup) (h : (a.map pairR).Perm (b.map pairR)) : a.Perm b := by
  have nd : ∀ {l : List RowM}, (l.map pairR).Nodup → l.Nodup := fun {l} hl => by
    rw [List.nodup_iff_pairwise_ne, List.pairwise_map] at hl
    rw [List.nodup_iff_pairwise_ne]
    exact hl.imp (fun hne e => hne (by rw [e]))
  rw [List.perm_ext_iff_of_nodup (nd ha) (nd (h.nodup ha))]
  intro x
  have h1 := h.mem_iff (a := pairR x)
  rw [List.mem_map, List.mem_map] at h1
  constructor
  · intro hx
    obtain ⟨y, hy, e⟩ := h1.1 ⟨x, hx, rfl⟩
    rwa [pairR_inj e] at hy
  · intro hx
    obtain ⟨y, hy, e⟩ := h1.2 ⟨x, hx, rfl⟩
    rwa [pairR_inj e] at hy
theorem MapR.perm {es : Array MapEntry} {ck : Nat} {l : List ((Int × Int) × Value)} {rs : List RowM} (hm : MapM K2 es ck l) (h : MapR l rs) (hs : SortedR rs) : l.Perm (rs.map pairR) := by
  have h1 : l.Nodup := by
    have := hm.keys
    rw [List.nodup_iff_pairwise_ne, List.pairwise_map] at this
    rw [List.nodup_iff_pairwise_ne]
    exact this.imp (fun hne e => hne (by rw [e]))
  have h2 : (rs.map pairR).Nodup := by
    rw [List.nodup_iff_pairwise_ne, List.pairwise_map]
    refine hs.imp (fun {a b} hab e => ?_)
    have e2 := pairR_inj e
    subst e2
    unfold RowM.lt2 at hab
    omega
  rw [List.perm_ext_iff_of_nodup h1 h2]
  intro p
  rw [h.mem p, List.mem_map]
  constructor
  · rintro ⟨r, hr, rfl⟩; exact ⟨r, hr, rfl⟩
  · rintro ⟨r, hr, rfl⟩; exact ⟨r, hr, rfl⟩
structure Seen (lm : List ((Int × Int) × Value)) (f : RowM → Bool) (js : List Nat) (o : List RowM) : Prop where
  rows : ∃ rl : List RowM, rl.map pairR = pairsAt lm js ∧ o = rl.filter f
theorem seen_new (lm : List ((Int × Int) × Value)) (f : RowM → Bool) : Seen lm f [] [] := ⟨[], rfl, rfl⟩
theorem Seen.push {lm : List ((Int × Int) × Value)} {rs : List RowM} {f : RowM → Bool} {js : List Nat} {o : List RowM} (h : Seen lm f js o) {j : Nat} {r : RowM} (hj : lm[j]? = some (pairR r)) : Seen lm f (js ++ [j]) (o ++ (if f r then [r] else [])) := by
  obtain ⟨rl, h1, h2⟩ := h.rows
  refine ⟨rl ++ [r], by rw [List.map_append, h1, pairsAt_snoc lm js hj]; rfl, ?_⟩
  rw [List.filter_append, ← h2]
  cases hf : f r <;> simp [hf]
theorem Seen.done {es : Array MapEntry} {ck : Nat} {lm : List ((Int × Int) × Value)} {rs : List RowM} (hm : MapM K2 es ck lm) (hR : MapR lm rs) (hs : SortedR rs) {f : RowM → Bool} {js : List Nat} {o : List RowM} (h : Seen lm f js o) (hp : (pairsAt lm js).Perm lm) : o.Perm (rs.filter f) := by
  obtain ⟨rl, h1, rfl⟩ := h.rows
  have h2 := hR.perm hm hs
  have h3 : (rl.map pairR).Perm (rs.map pairR) := by rw [h1]; exact hp.trans h2
  have h4 : (rs.map pairR).Nodup := by
    rw [List.nodup_iff_pairwise_ne, List.pairwise_map]
    refine hs.imp (fun {a b} hab e => ?_)
    have e2 := pairR_inj e
    subst e2
    unfold RowM.lt2 at hab
    omega
  exact (perm_pairs (h3.symm.nodup h4) h3).filter f

end Go.Proofs.YtkgmgmkbgnkdnaaGreat

namespace Go.Proofs.YtkgmgmkbgnkdnaaGreat
open Go.Proofs.Tryz
open Go Go.RowKit Gw
set_option linter.unusedVariables false
set_option linter.unusedSimpArgs false
set_option maxRecDepth 100000
attribute [local irreducible] Gw.At Gw.Nx Gw.Ops
def leV (c : Nat) (a b : RowM) : Prop := valN a c < valN b c ∨ valN a c = valN b c ∧ a.k ≤ b.k
def SortOk : Prop := ∀ (cb c : Nat) (w : Value) (o : List RowM) (s : List Chunk), c ≤ 3 → o.length ≤ 2000 → RowS 5 62 w o.length (rowCells o) s →
    Does Tryz.prog 86 #[w, .func (.func 87) #[] #[.pointer (some ⟨cb, 0, none⟩)]] [s, [(cb, .cells #[.int .i64 (c : Int)] 3 (0, 0))]]
      (fun r H' => r = .tuple #[] ∧ ∃ (s' : List Chunk) (o' : List RowM), o'.Perm o ∧ o'.Pairwise (leV c) ∧ RowS 5 62 w o'.length (rowCells o') s' ∧ H' = [s', [(cb, .cells #[.int .i64 (c : Int)] 3 (0, 0))]])

theorem chosen_range (hS : SortOk) (sp mb : Nat) (p : Int) (es : Array MapEntry) (ck : Nat) (lm : List ((Int × Int) × Value)) (rs : List RowM) (hm : MapM K2 es ck lm) (hR : MapR lm rs) (hs : SortedR rs) (hn : rs.length ≤ 2000) (t : Int) (c : Nat) (lo hi : Int) (hc : c ≤ 3) (b1 b2 b3 b4 : Nat) :
    Does Tryz.prog 69 #[.pointer (some ⟨sp, 0, none⟩), .int .i64 (c : Int), .func (.func 70) #[] #[.pointer (some ⟨b1, 0, none⟩), .pointer (some ⟨b2, 0, none⟩), .pointer (some ⟨b3, 0, none⟩), .pointer (some ⟨b4, 0, none⟩)]] [[(sp, .cells #[.map (some mb), .int .i64 p] 108 (0, 0))], [(mb, .map es ck)], [(b1, .cells #[.int .i64 (c : Int)] 3 (0, 0))], [(b2, .cells #[.int .i64 t] 3 (0, 0))], [(b3, .cells #[.int .i64 lo] 3 (0, 0))], [(b4, .cells #[.int .i64 hi] 3 (0, 0))]] (fun r H' => ∃ (so : List Chunk) (o : List RowM), RowS 5 62 r o.length (rowCells o) so ∧ o.Perm (rs.filter (inR t c lo hi)) ∧ o.Pairwise (leV c) ∧ H' = [so, [(sp, .cells #[.map (some mb), .int .i64 p] 108 (0, 0))], [(mb, .map es ck)], [(b1, .cells #[.int .i64 (c : Int)] 3 (0, 0))], [(b2, .cells #[.int .i64 t] 3 (0, 0))], [(b3, .cells #[.int .i64 lo] 3 (0, 0))], [(b4, .cells #[.int .i64 hi] 3 (0, 0))]]) := by
 have hml : maxLen = 9223372036854775807 := rfl
 have hln := hR.len hm hs
 refine spec_enter func69 rfl ntmps69 rfl ?_
 intro u R
 refine Zb [0, 1, 2] ?_
 refine Zq <| Zg <| Ze (w_box Y (cs := #[_]) rfl) ?_
 rintro _ _ ⟨cb, rfl, rfl⟩
 refine Za Y <| Z0 <| Zx <| Zq <| Zq <| Zg <| Zm Y <| Zv (p_eql_ptr_nil underlying43 Y Y) <| Z0 <| Zx ?_
 refine at_if_bool Y (fun h1 => ?_) (fun h1 => ?_)
 ·
  cases h1
 ·
  refine at_skip <| Zx <| Zq <| Zg <| Za Y <| Z0 <| Zx <| Zq <| Zq <| Zg <| Zm Y <| Zp Y rfl <| Zh 0 underlying108 rfl rfl sizeOf106 Y <| Zv (p_fieldAddr1 (off := 0) underlying106 rfl rfl sizeOf104 Y) <| Zl isAgg104 Y ?_
  refine Ze (w_rangeMap underlying104 Y (by repeat (first | exact Has.here _ | apply Has.there))) ?_
  rintro _ _ ⟨ib, rfl, rfl⟩
  refine Z0 <| Zx <| at_block <| at_nil ?_
  refine Zb [7, 2, 4, 17] ?_
  refine at_loopB (e0 := [(7, _)]) (H0 := _) (n := _) (fun m e H => ∃ (js : List Nat) (seen : Array Nat) (o : List RowM) (w : Value) (so : List Chunk), m = lm.length - js.length ∧ (IterM es js seen ∧ Seen lm (inR t c lo hi) js o ∧ RowS 5 62 w o.length (rowCells o) so ∧ o.length ≤ js.length) ∧ e = [(7, w)] ∧ H = [[(ib, .mapIter (some mb) ck seen ck)], so]) (by exact ⟨[], #[], [], .slice none 0 0, [], rfl, ⟨iterM_new _, seen_new _ _, rowS_nil 5 _, Nat.le_refl _⟩, rfl, rfl⟩) (by repeat (first | exact Pull.nil _ | (apply Pull.cons; (focus (repeat (first | exact One.here _ _ | apply One.there)))))) ?_
  rintro _ _ _ ⟨js, seen, o, w, so, rfl, ⟨hit, hse, hro, hoj⟩, rfl, rfl⟩
  obtain ⟨qo, capo, rfl⟩ := hro.form
  have hjl := nodup_lt es.size js hit.nodup hit.lt
  rw [hm.size] at hjl
  refine Zq <| Zg <| Ze (w_nextMap hm hit Y (by repeat (first | exact One.here _ _ | apply One.there)) (by repeat (first | exact Has.here _ | apply Has.there))) ?_
  rintro _ _ hnx
  rcases hnx with ⟨hdone, rfl, rfl⟩ | ⟨jn, pn, seen2, hpn, hjn, hi2, rfl, rfl⟩
  ·
   refine Zd Y rfl <| Z0 <| Zx <| Zq ?_
   refine at_if_bool Y (fun hb => ?_) (fun hb => ?_)
   ·
    cases hb
   ·
    refine at_exit <| Zt <| Zt <| nx_block_exit <| Zx <| Zq <| Zg <| Zm Y <| Zv (p_makeFunc (vs := []) (us := [_]) Y Y) ?_
    refine Zc [_, _] Y call86 Y rfl (hS cb c _ o so hc (by omega) hro) ?_
    rintro _ _ ⟨_, ⟨rfl, so2, o2, hpm, hpw, hro2, rfl⟩, rfl⟩
    refine Z0 <| Zx <| Zq <| Zg <| Zm Y <| Za Y <| Z0 <| Zx <| at_ret ?_
    refine nx_end1 rfl results69 Y (by exact ⟨so2, o2, hro2, hpm.trans (hse.done hm hR hs hdone), hpw, rfl⟩)
  ·
   obtain ⟨r, hr, rfl⟩ := (hR.mem pn).1 (List.mem_of_getElem? hpn)
   refine Zd Y rfl <| Z0 <| Zx <| Zq ?_
   refine at_if_bool Y (fun hb => ?_) (fun hb => ?_)
   ·
    have hjl2 := nodup_lt es.size (js ++ [jn]) hi2.nodup hi2.lt
    rw [hm.size, List.length_append, List.length_singleton] at hjl2
    have hla : (js ++ [jn]).length = js.length + 1 := by rw [List.length_append]; rfl
    have hse2 := hse.push (r := r) (rs := rs) hpn
    have hse2t : (inR t c lo hi) r = true → Seen lm (inR t c lo hi) (js ++ [jn]) (o ++ [r]) := fun h => by rw [h] at hse2; exact hse2
    have hse2f : (inR t c lo hi) r = false → Seen lm (inR t c lo hi) (js ++ [jn]) o := fun h => by rw [h] at hse2; simpa using hse2
    refine at_skip <| Zx <| at_block <| Zq <| Zg <| op_rm (cs := [(ib, .mapIter (some mb) ck seen2 ck), (mb, .map es ck)]) (by simp) (p_entryMap hm hi2 hpn Y) rfl rfl ?_
    refine Zd Y rfl <| Ze (w_alloc zeroValue62 (cs := #[_, _, _, _, _]) rfl) ?_
    rintro _ _ ⟨xb, rfl, rfl⟩
    refine Ze (w_store_agg sizeOf62 Y Y (by (simp [Value.oneCell']; done)) (by repeat (first | exact Upd.here _ | apply Upd.there)) (by exact (rfl : _ = (#[.int .i64 r.t, .int .i64 r.k, .int .i64 r.v.a, .int .i64 r.v.b, .int .i64 r.v.c] : Array Value))) (by first | rfl | (simp; done)) (by exact Nat.le_refl _) (by exact free_zero _)) ?_
    rintro _ _ ⟨rfl, rfl⟩
    refine Z0 <| Zx <| Zq <| Zg <| Zm Y <| Zo (by repeat (first | exact Has.here _ | apply Has.there)) (p_load_agg (cs := #[_, _, _, _, _]) isAgg62 sizeOf62 Y (by exact Nat.le_refl _) (by rfl)) ?_
    refine Zr [_] Y call70 Y rfl (range_in r t c lo hi hc b1 b2 b3 b4) ?_
    rintro _ _ ⟨rfl, rfl⟩
    refine Z0 <| Zx ?_
    refine at_if_bool Y (fun hin => ?_) (fun hin => ?_)
    ·
     refine Zg <| Zm Y <| Zo (by repeat (first | exact Has.here _ | apply Has.there)) (p_load_agg (cs := #[_, _, _, _, _]) isAgg62 sizeOf62 Y (by exact Nat.le_refl _) (by rfl)) ?_
     refine Ze (w_buildSlice (vs := [_]) (cs := [_, _, _, _, _]) underlying47 sizeOf62 zeroValue62 Y rfl rfl rfl rfl rfl) ?_
     rintro _ _ ⟨gb, rfl, rfl⟩
     refine Ze (w_append_subS (by_ := 40) (sz := 5) underlying47 (rfl : Tryz.prog.info? 62 = some Tryz.t62) rfl rfl rfl rfl Y (hro) Y (subS_new 5 gb 1 1 62 (0, 0) [.int .i64 r.t, .int .i64 r.k, .int .i64 r.v.a, .int .i64 r.v.b, .int .i64 r.v.c] rfl) (by repeat (first | exact One.here _ _ | apply One.there)) (by repeat (first | exact One.here _ _ | apply One.there)) (by simp [Value.oneCell']) (by omega) (by omega)) ?_
     rintro _ _ ⟨sa9, hra9, rfl⟩
     have hnew := rowS_eq hra9 (n' := (o ++ [r]).length) (xs' := rowCells (o ++ [r])) (by rw [List.length_append]; rfl) (by rw [rowCells_app]; rfl)
     obtain ⟨ga9, ca9, rfl⟩ := hra9.form
     refine Za Y <| Z0 <| Zn [2, 4, 7, 17] ?_
     refine nx_block_normal <| Zn [7, 2, 4, 17] ?_
     refine nx_againB (e' := [(7, _)]) (m := _) (H' := _) (by exact ⟨js ++ [jn], seen2, o ++ [r], _, _, rfl, ⟨hi2, hse2t hin, hnew, by rw [List.length_append, List.length_append]; simp; omega⟩, rfl, rfl⟩)
    ·
     refine at_skip <| nx_block_normal <| Zn [7, 2, 4, 17] ?_
     refine nx_againB (e' := [(7, _)]) (m := _) (H' := _) (by exact ⟨js ++ [jn], seen2, o, _, so, rfl, ⟨hi2, hse2f hin, hro, by rw [List.length_append]; omega⟩, rfl, rfl⟩)
   ·
    cases hb

end Go.Proofs.YtkgmgmkbgnkdnaaGreat
