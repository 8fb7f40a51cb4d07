/- Contract: journal.Append. -/
import Derived.Test.YthbadolcncojbaaGreatDoorEz
import Derived.Test.YthbadolcncojbaaGreatDoorAp2
namespace Go.Proofs.YthbadolcncojbaaGreatDoor
open Go.Proofs.Tryz
open Go Go.RowKit Gw
set_option linter.unusedVariables false
set_option linter.unusedSimpArgs false
set_option maxRecDepth 100000
attribute [local irreducible] Gw.At Gw.Nx Gw.Ops
def outL : List UInt8 → List (List UInt8) → List UInt8
  | _, [] => []
  | h, r :: ls => recS h r ++ outL (chainS h r) ls
def headL : List UInt8 → List (List UInt8) → List UInt8
  | h, [] => h
  | h, r :: ls => headL (chainS h r) ls
theorem outL_snoc (r : List UInt8) : ∀ (ls : List (List UInt8)) (h : List UInt8), outL h (ls ++ [r]) = outL h ls ++ recS (headL h ls) r
  | [], h => by simp [outL, headL]
  | x :: ls, h => by simp only [List.cons_append, outL, headL]; rw [outL_snoc r ls]; simp
theorem headL_snoc (r : List UInt8) : ∀ (ls : List (List UInt8)) (h : List UInt8), headL h (ls ++ [r]) = chainS (headL h ls) r
  | [], h => rfl
  | x :: ls, h => by simp only [List.cons_append, headL]; exact headL_snoc r ls _
theorem headL_len : ∀ (ls : List (List UInt8)) (h : List UInt8), h.length = 32 → (headL h ls).length = 32
  | [], h, hh => hh
  | x :: ls, h, hh => headL_len ls _ (chain_len _ _)
theorem outL_len : ∀ (ls : List (List UInt8)) (h : List UInt8), (∀ r ∈ ls, r.length ≤ 65536) → (outL h ls).length ≤ ls.length * 65578
  | [], h, _ => by simp [outL]
  | x :: ls, h, hl => by
    have h1 := recS_len h x (hl x (by simp))
    have h2 := encS_len x (hl x (by simp))
    have h3 := outL_len ls (chainS h x) (fun r hr => hl r (by simp [hr]))
    simp only [outL, List.length_append, List.length_cons]
    omega
theorem outL_two (h : List UInt8) (ls : List (List UInt8)) (hl : ∀ r ∈ ls, r.length ≤ 65536) (ho : outL h ls ≠ []) : 2 ≤ (outL h ls).length := by
  cases ls with
  | nil => exact absurd rfl ho
  | cons x ls =>
    have h1 := recS_len h x (hl x (by simp))
    simp only [outL, List.length_append]
    omega
theorem any_short {ls : List (List UInt8)} (h : ls.any isLong = false) : ∀ r ∈ ls, r.length ≤ 65536 := by
  intro r hr
  have := List.any_eq_false.1 h r hr
  unfold isLong at this
  have h2 : ¬ r.length > 65536 := by simpa using this
  omega
/-- A journal's state. -/
structure JrS where
  rs : List (List UInt8)
  h : List UInt8
  sz : Nat
  br : Bool
def JrS.append (j : JrS) (d : DiskS) (ls : List (List UInt8)) : Int × JrS × DiskS :=
  if j.br = true ∨ ls.any isLong = true then (230, j, d) else
  if d.vi.length < j.sz + (outL j.h ls).length then (231, j, d) else
  if outL j.h ls = [] then (0, j, d) else
  if (d.app j.sz (outL j.h ls)).1 ≠ 0 then ((d.app j.sz (outL j.h ls)).1, { j with br := true }, (d.app j.sz (outL j.h ls)).2) else
  (0, ⟨j.rs ++ ls, headL j.h ls, j.sz + (outL j.h ls).length, j.br⟩, (d.app j.sz (outL j.h ls)).2)
theorem writeString_any (b : Nat) (p v : Value) (l x : List UInt8) (sb : List Chunk) (hp : p = .pointer none ∨ p = .pointer (some ⟨b, 0, none⟩)) (hrow : Row 5 v (l.map u8v) sb) (h0 : 0 < x.length) (hb : l.length + x.length ≤ 1099511627776) :
    Does Tryz.prog 56 #[.pointer (some ⟨b, 0, none⟩), .string (str x)] [[(b, .cells #[p, v] 123 (0, 0))], sb] (fun r H' => ∃ v' sb' rv, Row 5 v' ((l ++ x).map u8v) sb' ∧ r = rv ∧ H' = [[(b, .cells #[.pointer (some ⟨b, 0, none⟩), v'] 123 (0, 0))], sb']) := by
  rcases hp with rfl | rfl
  · exact writeString_fresh b v l x sb hrow h0 hb
  · exact writeString_used b v l x sb hrow h0 hb
theorem builderString_any (b : Nat) (p v : Value) (l : List UInt8) (sb : List Chunk) (hrow : Row 5 v (l.map u8v) sb) (hz : l = [] → v = .slice none 0 0) (hl : l.length ≤ 1099511627776) :
    Does Tryz.prog 58 #[.pointer (some ⟨b, 0, none⟩)] [[(b, .cells #[p, v] 123 (0, 0))], sb] (fun r H' => r = .string (str l) ∧ H' = []) := by
  by_cases h : l = []
  · subst h
    have := hz rfl
    subst this
    refine does_weak (does_frame (builderString_none b p) [sb] rfl) ?_
    rintro r _ ⟨H2, ⟨rfl, rfl⟩, rfl⟩
    exact ⟨[], ⟨rfl, rfl⟩, _, List.Perm.refl _⟩
  · have h0 : 0 < l.length := List.length_pos_iff.2 h
    obtain ⟨g, cap, cur, z, rfl, rfl, hle, hcm, hcs, htk, hfr⟩ := hrow.some (by rw [List.length_map]; exact h0)
    rw [List.length_map] at hle htk ⊢
    refine does_weak (builderString_some b g cap p l cur z h0 (by omega) (by omega) htk) ?_
    rintro r _ ⟨rfl, rfl⟩
    exact ⟨[], ⟨rfl, rfl⟩, _, List.Perm.refl _⟩
section
variable {P : Program} {env : Env} {d : Option Nat} {ty : TypeId} {pos : String} {af : Array Edge} {g : Option (Nat × Bool)}
theorem p_slice_tail {t : TypeId} {x lo : Operand} {l : List UInt8} {lk : IntKind} (hu : P.underlying t = some .string) (hx : ∀ a, ev a env x = .string (str l)) (hl : ∀ a, ev a env lo = .int lk ((1 : Nat) : Int)) (h1 : 1 ≤ l.length) : OpP P ⟨d, .slice t x (some lo) none none, ty, pos, af, g⟩ env [] (.string (str l.tail)) := by
  have := p_slice_str_from (P := P) (d := d) (ty := ty) (pos := pos) (af := af) (g := g) hu hx hl (by rw [str_size]; exact h1)
  have e : (str l).extract 1 (str l).size = str l.tail := by
    have h2 := extract_str l 1 (l.length - 1)
    rw [str_size, show l.length = 1 + (l.length - 1) by omega, h2, List.drop_one]
    rw [List.take_of_length_le (by rw [List.length_tail]; omega)]
  rw [e] at this; exact this
theorem p_slice_head {t : TypeId} {x hi : Operand} {l : List UInt8} {lk : IntKind} (hu : P.underlying t = some .string) (hx : ∀ a, ev a env x = .string (str l)) (hl : ∀ a, ev a env hi = .int lk ((1 : Nat) : Int)) (h1 : 1 ≤ l.length) : OpP P ⟨d, .slice t x none (some hi) none, ty, pos, af, g⟩ env [] (.string (str (l.take 1))) := by
  have := p_slice_str_to (P := P) (d := d) (ty := ty) (pos := pos) (af := af) (g := g) hu hx hl (by rw [str_size]; exact h1)
  have e : (str l).extract 0 1 = str (l.take 1) := by
    have h2 := extract_str l 0 1
    rw [Nat.zero_add, List.drop_zero] at h2; exact h2
  rw [e] at this; exact this
end
theorem append_calls' (g b1 b2 b3 c1 c2 c3 jp dp sz : Nat) (T T1 T2 T3 U1 U2 U3 Tt : TypeId) (v hv zv bv : Value) (out : List UInt8) (d : DiskS) (sd : List Chunk) (hR : DiskR d dp sd) (hfit : sz + out.length ≤ d.vi.length) (ho2 : 2 ≤ out.length) (hk : d.pend.length ≤ 999990) :
    Does Tryz.prog 46 #[.slice (some ⟨g, 0, none⟩) 4 4] [[(g, .cells #[.func (.func 100) #[] #[.pointer (some ⟨b1, 0, none⟩), .pointer (some ⟨b2, 0, none⟩), .pointer (some ⟨b3, 0, none⟩)], .func (.func 48) #[.pointer (some ⟨dp, 0, none⟩)] #[], .func (.func 100) #[] #[.pointer (some ⟨c1, 0, none⟩), .pointer (some ⟨c2, 0, none⟩), .pointer (some ⟨c3, 0, none⟩)], .func (.func 48) #[.pointer (some ⟨dp, 0, none⟩)] #[]] T (0, 0))],
        [(b1, .cells #[.pointer (some ⟨jp, 0, none⟩)] T1 (0, 0))], [(b2, .cells #[.int .i64 ((sz + 1 : Nat) : Int)] T2 (0, 0))], [(b3, .cells #[.string (str out.tail)] T3 (0, 0))], [(c1, .cells #[.pointer (some ⟨jp, 0, none⟩)] U1 (0, 0))], [(c2, .cells #[.int .i64 (sz : Int)] U2 (0, 0))], [(c3, .cells #[.string (str (out.take 1))] U3 (0, 0))], [(jp, .cells #[v, hv, zv, .pointer (some ⟨dp, 0, none⟩), bv] Tt (0, 0))], sd]
      (fun r H' => ∃ s', r = .int .i64 (d.app sz out).1 ∧ DiskR (d.app sz out).2 dp s' ∧ H' = [[(jp, .cells #[v, hv, zv, .pointer (some ⟨dp, 0, none⟩), bv] Tt (0, 0))], s']) :=
  does_flat (by simp) (append_calls g b1 b2 b3 c1 c2 c3 jp dp sz T T1 T2 T3 U1 U2 U3 Tt v hv zv bv out d sd hR hfit ho2 hk)

theorem append_main (jp dp sz g cap : Nat) (v : Value) (rs ls : List (List UInt8)) (sr sd : List Chunk) (h : List UInt8) (d : DiskS) (cur : Array Value) (Tt Ta Tg : TypeId) (za zg : Nat × Nat)
    (hrow : Row 9 v (rs.map strV) sr) (hh : h.length = 32) (hz : sz ≤ d.vi.length) (hn : rs.length ≤ 4194304) (hR : DiskR d dp sd) (hk : d.pend.length ≤ 999990) (hin : CellsIn cur 0 (ls.map strV)) (hls : ls.length ≤ 1000000) (hany : ls.any isLong = false) (q : Int × JrS × DiskS) (hq : q = JrS.append ⟨rs, h, sz, false⟩ d ls) :
    Does Tryz.prog 13 #[.pointer (some ⟨jp, 0, none⟩), .slice (some ⟨g, 0, none⟩) ls.length cap] [[(jp, .cells #[v, .string (str h), .int .i64 (sz : Int), .pointer (some ⟨dp, 0, none⟩), .bool false] Tt (0, 0))], sr, [(g, .cells cur Ta za)], sd, [(4, .cells (kTab.map u32v).toArray Tg zg)]]
      (fun r H' => ∃ v' sr' s', r = .int .i64 q.1 ∧ Row 9 v' (q.2.1.rs.map strV) sr' ∧ DiskR q.2.2 dp s' ∧ H' = [[(jp, .cells #[v', .string (str q.2.1.h), .int .i64 (q.2.1.sz : Int), .pointer (some ⟨dp, 0, none⟩), .bool q.2.1.br] Tt (0, 0))], sr', [(g, .cells cur Ta za)], s', [(4, .cells (kTab.map u32v).toArray Tg zg)]]) := by
 have hvi : d.vi.length ≤ 4194304 := hR.1.2.2.1
 have hshort := any_short hany
 unfold JrS.append at hq
 rw [if_neg (by rw [hany]; simp)] at hq
 simp only at hq
 obtain ⟨gv, cv, rfl⟩ := hrow.form
 refine spec_enter func13 rfl ntmps13 rfl ?_
 intro u R
 refine Zb [0, 1] ?_
 refine Zq <| Zg <| Za Y <| Z0 <| Zx <| Zq <| Zq <| Zg <| Zm Y ?_
 first | refine op_v (p_eql_nil_nil underlying30 Y Y) ?_ | refine op_v (p_eql_ptr_nil underlying30 Y Y) ?_
 refine Z0 <| Zx ?_
 refine at_if_bool Y (fun hc1 => ?_) (fun hc1 => ?_)
 ·
  cases hc1
 ·
  refine at_skip <| Zx <| Zq <| Zg <| Za Y <| Z0 <| Zx <| Zq <| Zq <| Zg <| Zm Y <| Zp Y rfl <| Zh 4 underlying109 rfl rfl sizeOf4 Y <| Zl isAgg4 Y ?_
  refine Zm Y ?_
  refine ops_split_bool (t := 18) Y rfl (fun hb => ?_) (fun hb => ?_)
  ·
   cases hb
  ·
   refine Zf Y Y <| Zf Y Y <| Zr [_, _] Y call54 Y rfl (contains_some g cap cur Ta za ls hin (by omega)) ?_
   rintro _ _ ⟨rfl, rfl⟩
   refine Zv (p_pick_f Y Y) <| Z0 <| Zn [0, 1, 22] ?_
   refine Zx ?_
   refine at_if_bool Y (fun hl => ?_) (fun hl => ?_)
   ·
    rw [hany] at hl; cases hl
   ·
    refine at_skip <| Zx <| Zq <| Zg <| Zm Y <| Zp Y rfl <| Zh 0 underlying109 rfl rfl sizeOf107 Y <| Zo (by repeat (first | exact Has.here _ | apply Has.there)) (p_load_agg (cs := #[_, _, _]) isAgg107 sizeOf107 Y (by first | decide | exact Nat.le_refl _ | (simp; done) | (simp; omega)) (by rfl)) ?_
    refine Ze (w_alloc zeroValue107 (cs := #[_, _, _]) rfl) ?_
    rintro _ _ ⟨nx, rfl, rfl⟩
    refine Ze (w_store_agg sizeOf107 Y Y (by first | (simp [Value.oneCell']; done) | (simp [Value.oneCell', Value.cells]; done)) (by repeat (first | exact Upd.here _ | apply Upd.there)) (by exact (rfl : _ = (#[.slice gv _ cv, .string (str h), .int .i64 (sz : Int)] : Array Value))) (by first | rfl | (simp; done)) (by first | decide | exact Nat.le_refl _ | (simp; done) | (simp; omega)) (by exact free_zero _)) ?_
    rintro _ _ ⟨rfl, rfl⟩
    refine Z0 <| Zx <| Zq <| Zg <| Zh 0 underlying107 rfl rfl sizeOf43 Y <| Zl isAgg43 Y ?_
    refine Zc [_] Y call55 Y rfl (clone_spec _ rs sr hrow (by omega)) ?_
    rintro _ _ ⟨_, ⟨srn, hrn, rfl⟩, rfl⟩
    obtain ⟨gn, cn, rfl⟩ := hrn.form
    refine Zh 0 underlying107 rfl rfl sizeOf43 Y <| Ze (Zs sizeOf43 Y Y rfl) ?_
    rintro _ _ ⟨rfl, rfl⟩
    refine Z0 <| Zx <| Zq <| Zg <| Ze (w_alloc zeroValue123 (cs := #[_, _]) rfl) ?_
    rintro _ _ ⟨bo, rfl, rfl⟩
    refine Z0 <| Zx <| Zq <| Zq <| Zg <| Zm Y <| Zv (p_len_slice underlying43 Y) <| Zm Y <| Z0 <| Zn [0, 6, 7, 31, 32, 33] ?_
    refine Zx <| at_block <| at_nil ?_
    refine Zb [33, 0, 6, 7, 31, 32] ?_
    refine at_loopB (e0 := [(33, _)]) (H0 := _) (n := _) (fun m e H => ∃ (i : Nat) (vn p bv : Value) (sn sb : List Chunk), m = ls.length - i ∧ (i ≤ ls.length ∧ Row 9 vn ((rs ++ ls.take i).map strV) sn ∧ Row 5 bv ((outL h (ls.take i)).map u8v) sb ∧ (p = .pointer none ∨ p = .pointer (some ⟨bo, 0, none⟩)) ∧ (i = 0 → bv = .slice none 0 0)) ∧ e = [(33, .int .i64 (i : Int))] ∧ H = [[(nx, .cells #[vn, .string (str (headL h (ls.take i))), .int .i64 ((sz + (outL h (ls.take i)).length : Nat) : Int)] 107 (0, 0))], sn, [(bo, .cells #[p, bv] 123 (0, 0))], sb]) (by exact ⟨0, _, _, _, srn, [], rfl, ⟨Nat.zero_le _, by rw [List.take_zero, List.append_nil]; exact hrn, row_nil _, .inl rfl, fun _ => rfl⟩, rfl, rfl⟩) (by repeat (first | exact Pull.nil _ | (apply Pull.cons; (focus (repeat (first | exact One.here _ _ | apply One.there)))))) ?_
    rintro _ _ _ ⟨i, vn, p, bv, sn, sb, rfl, ⟨hi, hrown, hrowb, hp, hb0⟩, rfl, rfl⟩
    refine Zq <| Zg ?_
    first | refine op_v (p_lss_nat Y Y) ?_ | refine op_v (p_lss Y Y) ?_
    refine Z0 <| Zx <| Zq ?_
    first | refine at_if Y (fun hlt => ?_) (fun hlt => ?_) | refine at_if_bool Y (fun hlt => ?_) (fun hlt => ?_)
    ·
     refine at_skip <| Zx <| Zq <| at_block <| Zq ?_
     obtain ⟨x, hx⟩ : ∃ x, ls[i]? = some x := ⟨_, List.getElem?_eq_getElem hlt⟩
     have hcell : cur[i]? = some (strV x) := by
       have := hin.get i (strV x) (by rw [List.getElem?_map, hx]; rfl)
       rwa [Nat.zero_add] at this
     have hxl := hshort x (List.mem_of_getElem? hx)
     have htk : ls.take (i + 1) = ls.take i ++ [x] := by rw [List.take_add_one, hx]; rfl
     have hol := outL_len (ls.take i) h (fun r hr => hshort r (List.mem_of_mem_take hr))
     have htl : (ls.take i).length ≤ i := List.length_take_le ..
     have hrl := recS_len (headL h (ls.take i)) x hxl
     have hel := encS_len x hxl
     refine Zg ?_
     first | (refine op_v (p_indexAddr_nat0 underlying43 sizeOf9 Y Y ?_) ?_; (focus (omega))) | (refine op_v (p_indexAddr_nat1 underlying43 sizeOf9 Y Y ?_) ?_; (focus (omega)))
     refine Zl isAgg9 Y (hv := by exact hcell) ?_
     refine Za Y <| Z0 <| Zx <| Zg <| Zm Y <| Zc [_, _] Y call57 Y rfl (add3 nx (sz + (outL h (ls.take i)).length) vn (rs ++ ls.take i) sn (headL h (ls.take i)) x _ _ _ hrown (headL_len _ _ hh) hxl (by omega) (by rw [List.length_append]; omega)) ?_
     rintro _ _ ⟨_, ⟨rfl, vn2, sn2, hrow2, rfl⟩, rfl⟩
     refine Zc [_, _] Y call56 Y rfl (writeString_any bo p bv (outL h (ls.take i)) (recS (headL h (ls.take i)) x) sb hp hrowb (by omega) (by omega)) ?_
     rintro _ _ ⟨_, ⟨bv2, sb2, rv, hrb2, rfl, rfl⟩, rfl⟩
     refine Z0 <| nx_block_normal <| Zx ?_
     rw [← headL_snoc x (ls.take i) h, ← htk]
     rw [show sz + (outL h (ls.take i)).length + (recS (headL h (ls.take i)) x).length = sz + (outL h (ls.take (i + 1))).length from by rw [htk, outL_snoc, List.length_append]; omega]
     refine Zg ?_
     first | (refine op_v (p_add_nat (n := 1) Y Y ?_) ?_; (focus (omega))) | (refine op_v (p_add Y Y (IntWalk.i64_in _ ?_)) ?_; (focus (omega)))
     refine Zm Y <| Z0 <| Zn [33, 0, 6, 7, 31, 32] ?_
     refine nx_againB (e' := [(33, _)]) (m := _) (H' := _) (by exact ⟨i + 1, _, _, _, _, _, rfl, ⟨by omega, by rw [htk, ← List.append_assoc]; exact hrow2, by rw [htk, outL_snoc]; exact hrb2, .inr rfl, fun h => by omega⟩, rfl, rfl⟩)
    ·
     have ei : i = ls.length := by omega
     subst ei
     rw [List.take_length] at hrown hrowb
     rw [List.take_length]
     have hol := outL_len ls h hshort
     obtain ⟨out, ho⟩ : ∃ out, out = outL h ls := ⟨_, rfl⟩
     obtain ⟨h2, hh2⟩ : ∃ h2, h2 = headL h ls := ⟨_, rfl⟩
     have hz0 : out = [] → bv = .slice none 0 0 := fun he => hb0 (by
       cases ls with
       | nil => rfl
       | cons x t =>
         have := recS_len h x (hshort x (by simp))
         have h3 := congrArg List.length (ho.symm.trans he)
         simp only [outL, List.length_append, List.length_nil] at h3
         omega)
     have htwo := outL_two h ls hshort
     rw [← ho] at hq hrowb hol htwo
     rw [← ho, ← hh2]
     rw [← hh2] at hq
     obtain ⟨gn2, cn2, rfl⟩ := hrown.form
     refine at_exit <| Zt <| Zt <| nx_block_exit <| Zx <| Zq <| Zg <| Zc [_] Y call58 Y rfl (builderString_any bo p bv out sb hrowb hz0 (by omega)) ?_
     rintro _ _ ⟨_, ⟨rfl, rfl⟩, rfl⟩
     refine Za Y <| Z0 <| Zx <| Zq <| at_block <| Zq <| Zg <| Zm Y <| op_w (p_len_strL underlying9 Y) rfl rfl ?_
     refine Zm Y <| Zr [_] Y call17 Y rfl (room_spec jp sz dp _ h false Tt d sd hR (by omega)) ?_
     rintro _ _ ⟨rfl, rfl⟩
     first | refine op_v (p_gtr_nat Y Y) ?_ | refine op_v (p_gtr Y Y) ?_
     refine Za Y <| Z0 <| Zx ?_
     first | refine at_if Y (fun hroom => ?_) (fun hroom => ?_) | refine at_if_bool Y (fun hroom => ?_) (fun hroom => ?_)
     ·
      refine Zq <| Zg <| Za Y <| Z0 <| Zx <| at_ret <| nx_block_ret <| Zt ?_
      refine nx_end1 rfl results13 Y (by
            rw [if_pos (by omega)] at hq
            subst hq
            exact ⟨_, sr, sd, rfl, hrow, hR, rfl⟩)
     ·
      refine Zq <| Zg <| Zm Y <| Zv (p_eql_str Y Y) <| Za Y <| Z0 <| Zx ?_
      first | refine at_if Y (fun hemp => ?_) (fun hemp => ?_) | refine at_if_bool Y (fun hemp => ?_) (fun hemp => ?_)
      ·
       refine Zq <| Zg <| Za Y <| Z0 <| Zn [4] ?_
       refine Zx <| at_ret <| nx_block_ret <| Zt ?_
       refine nx_end1 rfl results13 Y (by
             rw [if_neg (by omega), if_pos (by have h4 := congrArg (fun t : ByteArray => t.data.toList) hemp; simpa [str] using h4)] at hq
             subst hq
             exact ⟨_, sr, sd, rfl, hrow, hR, rfl⟩)
      ·
       refine at_skip <| nx_block_normal <| Zx <| Zq <| Zq ?_
       have hne : out ≠ [] := fun h5 => hemp (by rw [h5]; rfl)
       have h2o := htwo hne
       rw [if_neg (by omega), if_neg hne] at hq
       obtain ⟨qa, hqa⟩ : ∃ qa, qa = d.app sz out := ⟨_, rfl⟩
       rw [← hqa] at hq
       refine at_draw (n := 32) (0 :: 0 :: 2 :: 6 :: 14 :: 30 :: 62 :: 0 :: 128 :: 511 :: 0 :: 1024 :: 3072 :: 7168 :: 15360 :: 0 :: 0 :: 65536 :: 196608 :: 458752 :: 983040 :: 0 :: 2097152 :: 8356863 :: 0 :: 16777216 :: 50331648 :: 117440512 :: 251658240 :: 536870911 :: 1073741823 :: 2147483647 :: []) 1619001856 (by kernel_rfl) (by kernel_rfl) rfl ?_
       refine Zi 1 0 rfl (p_move Y) <| Zi 3 1 rfl (p_move Y) <| Zi 7 2 rfl (p_nilChk Y rfl) <| Zi 15 3 rfl (p_fieldAddr0 (off := 0) underlying109 rfl rfl sizeOf107 Y) <| Zi 31 4 rfl (p_fieldAddr1 (off := 2) underlying107 rfl rfl sizeOf3 Y) <| Zj 63 5 rfl isAgg3 Y ?_
       first | (refine lin_v (D' := 127) 6 (p_add_nat (n := 1) Y Y ?_) ?_; (focus (omega))) | (refine lin_v (D' := 127) 6 (p_add Y Y (IntWalk.i64_in _ ?_)) ?_; (focus (omega)))
       refine Zi 255 7 rfl (p_move Y) <| lin_w (D' := 511) 8 rfl rfl rfl (p_slice_tail underlying9 Y Y (by omega)) ?_
       refine Zi 1535 10 rfl (p_move Y) <| Zi 3583 11 rfl (p_nilChk Y rfl) <| Zi 7679 12 rfl (p_fieldAddr0 (off := 3) underlying109 rfl rfl sizeOf26 Y) <| Zj 15871 13 rfl isAgg26 Y ?_
       refine Zi 32255 14 rfl (p_makeFunc (vs := [_]) (us := []) Y Y) ?_
       refine Zi 65023 15 rfl (p_move Y) <| Zi 130559 16 rfl (p_move Y) <| Zi 261631 17 rfl (p_nilChk Y rfl) <| Zi 523775 18 rfl (p_fieldAddr0 (off := 0) underlying109 rfl rfl sizeOf107 Y) <| Zi 1048063 19 rfl (p_fieldAddr1 (off := 2) underlying107 rfl rfl sizeOf3 Y) <| Zj 2096639 20 rfl isAgg3 Y ?_
       refine Zi 4193791 21 rfl (p_move Y) <| lin_w (D' := 8388095) 22 rfl rfl rfl (p_slice_head underlying9 Y Y (by omega)) ?_
       refine Zi 25165311 24 rfl (p_move Y) <| Zi 58719743 25 rfl (p_nilChk Y rfl) <| Zi 125828607 26 rfl (p_fieldAddr0 (off := 3) underlying109 rfl rfl sizeOf26 Y) <| Zj 260046335 27 rfl isAgg26 Y ?_
       refine Zi 528481791 28 rfl (p_makeFunc (vs := [_]) (us := []) Y Y) ?_
       refine Zz (l := [9]) ?_
       refine Zy 511 528482303 [27, 20, 13, 5] [true, true, true, false] [(27, (_, _)), (20, (_, _)), (13, (_, _))] rfl Y rfl rfl rfl rfl (Zw [_, _, _] Y call47 Y rfl (writing_spec _ _ _)) ?hk_5 no_pan ?hl_5
       case hk_5 =>
        rintro _ _ ⟨_, ⟨b1, b2, b3, rfl, rfl⟩, rfl⟩
        refine ⟨Zk (Zk (Zk (keep_nil))), ?_⟩
        refine Zz (l := [23]) ?_
        refine Zy 8356863 536870911 [27, 20, 13] [true, false, true] [(27, (_, _)), (13, (_, _))] rfl Y rfl rfl rfl rfl (Zw [_, _, _] Y call47 Y rfl (writing_spec _ _ _)) ?hk_6 no_pan ?hl_6
        case hk_6 =>
         rintro _ _ ⟨_, ⟨c1, c2, c3, rfl, rfl⟩, rfl⟩
         refine ⟨Zk (Zk (keep_nil)), ?_⟩
         refine Zz (l := [29]) ?_
         refine Zy 536870911 1073741823 [27, 13] [false, false] [] rfl Y rfl rfl rfl rfl (w_buildSlice (vs := [_, _, _, _]) (cs := [_, _, _, _]) underlying181 sizeOf111 zeroValue111 Y rfl rfl rfl rfl rfl) ?hk_7 (fun _ _ h => h.elim) ?hl_7
         case hk_7 =>
          rintro _ _ ⟨gc, rfl, rfl⟩
          refine ⟨keep_nil, ?_⟩
          refine Zz (l := [30]) ?_
          refine Zy 1073741823 2147483647 [] [] [] rfl Y rfl rfl rfl rfl (Zw [_] Y call46 Y rfl (append_calls' gc b1 b2 b3 c1 c2 c3 jp dp sz _ _ _ _ _ _ _ _ _ _ _ _ out d sd hR (by omega) h2o hk)) ?hk_8 no_pan ?hl_8
          case hk_8 =>
           rintro _ _ ⟨_, ⟨s2, rfl, hR2, rfl⟩, rfl⟩
           refine ⟨keep_nil, ?_⟩
           rw [← hqa] at hR2 ⊢
           refine Zi 4294967295 31 rfl (p_assign Y) <| lin_nil ?_
           refine Zn [0, 6, 11] ?_
           refine Zx <| Zq <| Zg <| Zm Y ?_
           first | refine op_v (p_neq_nat (n := 0) Y Y) ?_ | refine op_v (p_neq Y Y) ?_
           refine Z0 <| Zx ?_
           first | refine at_if Y (fun hq0 => ?_) (fun hq0 => ?_) | refine at_if_bool Y (fun hq0 => ?_) (fun hq0 => ?_)
           ·
            rw [if_pos hq0] at hq
            refine Zq <| Zg <| Zm Y <| Zp Y rfl <| Zh 4 underlying109 rfl rfl sizeOf4 Y <| Ze (Zs sizeOf4 Y Y rfl) ?_
            rintro _ _ ⟨rfl, rfl⟩
            refine Z0 <| Zx <| Zq <| Zg <| Zm Y <| Za Y <| Z0 <| Zx <| at_ret <| Zt ?_
            refine nx_end1 rfl results13 Y (by
                  subst hq
                  exact ⟨_, sr, s2, rfl, hrow, hR2, rfl⟩)
           ·
            rw [if_neg hq0] at hq
            refine at_skip <| Zx <| Zq <| Zg <| Zm Y <| Zo (by repeat (first | exact Has.here _ | apply Has.there)) (p_load_agg (cs := #[_, _, _]) isAgg107 sizeOf107 Y (by first | decide | exact Nat.le_refl _ | (simp; done) | (simp; omega)) (by rfl)) ?_
            refine Zp Y rfl <| Zh 0 underlying109 rfl rfl sizeOf107 Y <| Ze (w_store_agg sizeOf107 Y Y (by first | (simp [Value.oneCell']; done) | (simp [Value.oneCell', Value.cells]; done)) (by repeat (first | exact Upd.here _ | apply Upd.there)) (by exact (rfl : _ = (#[.slice gn2 _ cn2, .string (str h2), .int .i64 ((sz + out.length : Nat) : Int), .pointer (some ⟨dp, 0, none⟩), .bool false] : Array Value))) (by first | rfl | (simp; done)) (by first | decide | exact Nat.le_refl _ | (simp; done) | (simp; omega)) (by exact free_zero _)) ?_
            rintro _ _ ⟨rfl, rfl⟩
            refine Z0 <| Zx <| Zq <| Zg <| Za Y <| Z0 <| Zx <| at_ret ?_
            refine nx_end1 rfl results13 Y (by
                  subst hq
                  exact ⟨_, sn, s2, rfl, hrown, hR2, rfl⟩)
          case hl_8 =>
           exact each_nil
         case hl_7 =>
          exact each_nil
        case hl_6 =>
         exact each_nil
       case hl_5 =>
        exact each_nil

end Go.Proofs.YthbadolcncojbaaGreatDoor
