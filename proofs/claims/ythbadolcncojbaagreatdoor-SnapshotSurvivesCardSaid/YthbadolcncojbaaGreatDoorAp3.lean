/- Contract: journal.Append. -/
import Derived.Test.YthbadolcncojbaaGreatDoorAp2
namespace Go.Proofs.YthbadolcncojbaaGreatDoor
open Go Go.RowKit Gw
set_option linter.unusedVariables false
set_option maxRecDepth 100000
attribute [local irreducible] Gw.At Gw.Nx Gw.Ops
def outL : List UInt8 → List (List UInt8) → List UInt8
  | _, [] => []
  | h, r :: ls => recS h r ++ outL (chainS h r) ls
def headL : List UInt8 → List (List UInt8) → List UInt8
  | h, [] => h
  | h, r :: ls => headL (chainS h r) ls
theorem outL_snoc (r : List UInt8) : ∀ (ls : List (List UInt8)) (h : List UInt8), outL h (ls ++ [r]) = outL h ls ++ recS (headL h ls) r
  | [], h => by simp [outL, headL]
  | x :: ls, h => by simp only [List.cons_append, outL, headL]; rw [outL_snoc r ls]; simp
theorem headL_snoc (r : List UInt8) : ∀ (ls : List (List UInt8)) (h : List UInt8), headL h (ls ++ [r]) = chainS (headL h ls) r
  | [], h => rfl
  | x :: ls, h => by simp only [List.cons_append, headL]; exact headL_snoc r ls _
theorem headL_len : ∀ (ls : List (List UInt8)) (h : List UInt8), h.length = 32 → (headL h ls).length = 32
  | [], h, hh => hh
  | x :: ls, h, hh => headL_len ls _ (chain_len _ _)
theorem outL_len : ∀ (ls : List (List UInt8)) (h : List UInt8), (∀ r ∈ ls, r.length ≤ 65536) → (outL h ls).length ≤ ls.length * 65578
  | [], h, _ => by simp [outL]
  | x :: ls, h, hl => by
    have h1 := recS_len h x (hl x (by simp))
    have h2 := encS_len x (hl x (by simp))
    have h3 := outL_len ls (chainS h x) (fun r hr => hl r (by simp [hr]))
    simp only [outL, List.length_append, List.length_cons]
    omega
theorem outL_two (h : List UInt8) (ls : List (List UInt8)) (hl : ∀ r ∈ ls, r.length ≤ 65536) (ho : outL h ls ≠ []) : 2 ≤ (outL h ls).length := by
  cases ls with
  | nil => exact absurd rfl ho
  | cons x ls =>
    have h1 := recS_len h x (hl x (by simp))
    simp only [outL, List.length_append]
    omega
theorem any_short {ls : List (List UInt8)} (h : ls.any isLong = false) : ∀ r ∈ ls, r.length ≤ 65536 := by
  intro r hr
  have := List.any_eq_false.1 h r hr
  unfold isLong at this
  have h2 : ¬ r.length > 65536 := by simpa using this
  omega
/-- A journal's state. -/
structure JrS where
  rs : List (List UInt8)
  h : List UInt8
  sz : Nat
  br : Bool
def JrS.append (j : JrS) (d : DiskS) (ls : List (List UInt8)) : Int × JrS × DiskS :=
  if j.br = true ∨ ls.any isLong = true then (230, j, d) else
  if d.vi.length < j.sz + (outL j.h ls).length then (231, j, d) else
  if outL j.h ls = [] then (0, j, d) else
  if (d.app j.sz (outL j.h ls)).1 ≠ 0 then ((d.app j.sz (outL j.h ls)).1, { j with br := true }, (d.app j.sz (outL j.h ls)).2) else
  (0, ⟨j.rs ++ ls, headL j.h ls, j.sz + (outL j.h ls).length, j.br⟩, (d.app j.sz (outL j.h ls)).2)
theorem writeString_any (b : Nat) (p v : Value) (l x : List UInt8) (sb : List Chunk) (hp : p = .pointer none ∨ p = .pointer (some ⟨b, 0, none⟩)) (hrow : Row 5 v (l.map u8v) sb) (h0 : 0 < x.length) (hb : l.length + x.length ≤ 1099511627776) :
    Does Tryz.prog 56 #[.pointer (some ⟨b, 0, none⟩), .string (str x)] [[(b, .cells #[p, v] 123 (0, 0))], sb] (fun r H' => ∃ v' sb' rv, Row 5 v' ((l ++ x).map u8v) sb' ∧ r = rv ∧ H' = [[(b, .cells #[.pointer (some ⟨b, 0, none⟩), v'] 123 (0, 0))], sb']) := by
  rcases hp with rfl | rfl
  · exact writeString_fresh b v l x sb hrow h0 hb
  · exact writeString_used b v l x sb hrow h0 hb
theorem builderString_any (b : Nat) (p v : Value) (l : List UInt8) (sb : List Chunk) (hrow : Row 5 v (l.map u8v) sb) (hz : l = [] → v = .slice none 0 0) (hl : l.length ≤ 1099511627776) :
    Does Tryz.prog 58 #[.pointer (some ⟨b, 0, none⟩)] [[(b, .cells #[p, v] 123 (0, 0))], sb] (fun r H' => r = .string (str l) ∧ H' = []) := by
  by_cases h : l = []
  · subst h
    have := hz rfl
    subst this
    refine does_weak (does_frame (builderString_none b p) [sb] rfl) ?_
    rintro r _ ⟨H2, ⟨rfl, rfl⟩, rfl⟩
    exact ⟨[], ⟨rfl, rfl⟩, _, List.Perm.refl _⟩
  · have h0 : 0 < l.length := List.length_pos_iff.2 h
    obtain ⟨g, cap, cur, z, rfl, rfl, hle, hcm, hcs, htk, hfr⟩ := hrow.some (by rw [List.length_map]; exact h0)
    rw [List.length_map] at hle htk ⊢
    refine does_weak (builderString_some b g cap p l cur z h0 (by omega) (by omega) htk) ?_
    rintro r _ ⟨rfl, rfl⟩
    exact ⟨[], ⟨rfl, rfl⟩, _, List.Perm.refl _⟩
section
variable {P : Program} {env : Env} {d : Option Nat} {ty : TypeId} {pos : String} {af : Array Edge} {g : Option (Nat × Bool)}
theorem p_slice_tail {t : TypeId} {x lo : Operand} {l : List UInt8} {lk : IntKind} (hu : P.underlying t = some .string) (hx : ∀ a, ev a env x = .string (str l)) (hl : ∀ a, ev a env lo = .int lk ((1 : Nat) : Int)) (h1 : 1 ≤ l.length) : OpP P ⟨d, .slice t x (some lo) none none, ty, pos, af, g⟩ env [] (.string (str l.tail)) := by
  have := p_slice_str_from (P := P) (d := d) (ty := ty) (pos := pos) (af := af) (g := g) hu hx hl (by rw [str_size]; exact h1)
  have e : (str l).extract 1 (str l).size = str l.tail := by
    have h2 := extract_str l 1 (l.length - 1)
    rw [str_size, show l.length = 1 + (l.length - 1) by omega, h2, List.drop_one]
    rw [List.take_of_length_le (by rw [List.length_tail]; omega)]
  rw [e] at this; exact this
theorem p_slice_head {t : TypeId} {x hi : Operand} {l : List UInt8} {lk : IntKind} (hu : P.underlying t = some .string) (hx : ∀ a, ev a env x = .string (str l)) (hl : ∀ a, ev a env hi = .int lk ((1 : Nat) : Int)) (h1 : 1 ≤ l.length) : OpP P ⟨d, .slice t x none (some hi) none, ty, pos, af, g⟩ env [] (.string (str (l.take 1))) := by
  have := p_slice_str_to (P := P) (d := d) (ty := ty) (pos := pos) (af := af) (g := g) hu hx hl (by rw [str_size]; exact h1)
  have e : (str l).extract 0 1 = str (l.take 1) := by
    have h2 := extract_str l 0 1
    rw [Nat.zero_add, List.drop_zero] at h2; exact h2
  rw [e] at this; exact this
end
theorem append_calls' (g b1 b2 b3 c1 c2 c3 jp dp sz : Nat) (T T1 T2 T3 U1 U2 U3 Tt : TypeId) (v hv zv bv : Value) (out : List UInt8) (d : DiskS) (sd : List Chunk) (hR : DiskR d dp sd) (hfit : sz + out.length ≤ d.vi.length) (ho2 : 2 ≤ out.length) (hk : d.pend.length ≤ 999990) :
    Does Tryz.prog 46 #[.slice (some ⟨g, 0, none⟩) 4 4] [[(g, .cells #[.func (.func 100) #[] #[.pointer (some ⟨b1, 0, none⟩), .pointer (some ⟨b2, 0, none⟩), .pointer (some ⟨b3, 0, none⟩)], .func (.func 48) #[.pointer (some ⟨dp, 0, none⟩)] #[], .func (.func 100) #[] #[.pointer (some ⟨c1, 0, none⟩), .pointer (some ⟨c2, 0, none⟩), .pointer (some ⟨c3, 0, none⟩)], .func (.func 48) #[.pointer (some ⟨dp, 0, none⟩)] #[]] T (0, 0))],
        [(b1, .cells #[.pointer (some ⟨jp, 0, none⟩)] T1 (0, 0))], [(b2, .cells #[.int .i64 ((sz + 1 : Nat) : Int)] T2 (0, 0))], [(b3, .cells #[.string (str out.tail)] T3 (0, 0))], [(c1, .cells #[.pointer (some ⟨jp, 0, none⟩)] U1 (0, 0))], [(c2, .cells #[.int .i64 (sz : Int)] U2 (0, 0))], [(c3, .cells #[.string (str (out.take 1))] U3 (0, 0))], [(jp, .cells #[v, hv, zv, .pointer (some ⟨dp, 0, none⟩), bv] Tt (0, 0))], sd]
      (fun r H' => ∃ s', r = .int .i64 (d.app sz out).1 ∧ DiskR (d.app sz out).2 dp s' ∧ H' = [[(jp, .cells #[v, hv, zv, .pointer (some ⟨dp, 0, none⟩), bv] Tt (0, 0))], s']) :=
  does_flat (by simp) (append_calls g b1 b2 b3 c1 c2 c3 jp dp sz T T1 T2 T3 U1 U2 U3 Tt v hv zv bv out d sd hR hfit ho2 hk)

theorem append_main (jp dp sz g cap : Nat) (v : Value) (rs ls : List (List UInt8)) (sr sd : List Chunk) (h : List UInt8) (d : DiskS) (cur : Array Value) (Tt Ta Tg : TypeId) (za zg : Nat × Nat)
    (hrow : Row 9 v (rs.map strV) sr) (hh : h.length = 32) (hz : sz ≤ d.vi.length) (hn : rs.length ≤ 4194304) (hR : DiskR d dp sd) (hk : d.pend.length ≤ 999990) (hin : CellsIn cur 0 (ls.map strV)) (hls : ls.length ≤ 1000000) (hany : ls.any isLong = false) (q : Int × JrS × DiskS) (hq : q = JrS.append ⟨rs, h, sz, false⟩ d ls) :
    Does Tryz.prog 13 #[.pointer (some ⟨jp, 0, none⟩), .slice (some ⟨g, 0, none⟩) ls.length cap] [[(jp, .cells #[v, .string (str h), .int .i64 (sz : Int), .pointer (some ⟨dp, 0, none⟩), .bool false] Tt (0, 0))], sr, [(g, .cells cur Ta za)], sd, [(4, .cells (kTab.map u32v).toArray Tg zg)]]
      (fun r H' => ∃ v' sr' s', r = .int .i64 q.1 ∧ Row 9 v' (q.2.1.rs.map strV) sr' ∧ DiskR q.2.2 dp s' ∧ H' = [[(jp, .cells #[v', .string (str q.2.1.h), .int .i64 (q.2.1.sz : Int), .pointer (some ⟨dp, 0, none⟩), .bool q.2.1.br] Tt (0, 0))], sr', [(g, .cells cur Ta za)], s', [(4, .cells (kTab.map u32v).toArray Tg zg)]]) := by
 have hvi : d.vi.length ≤ 4194304 := hR.1.2.2.1
 have hshort := any_short hany
 unfold JrS.append at hq
 rw [if_neg (by rw [hany]; simp)] at hq
 simp only at hq
 obtain ⟨gv, cv, rfl⟩ := hrow.form
 refine spec_enter Tryz.func13 rfl Tryz.ntmps13 rfl ?_
 intro u R
 refine at_slots (env' := [(0, _), (1, _)]) [0, 1] rfl (fun _=>rfl) ?_
 refine at_seq ?_
 refine at_region ?_
 refine op_v (p_assign (fun _=>rfl)) ?_
 refine ops_nil ?_
 refine nx_next ?_
 refine at_seq ?_
 refine at_seq ?_
 refine at_region ?_
 refine op_v (p_move (fun _=>rfl)) ?_
 first | refine op_v (p_eql_nil_nil Tryz.underlying30 (fun _=>rfl) (fun _=>rfl)) ?_ | refine op_v (p_eql_ptr_nil Tryz.underlying30 (fun _=>rfl) (fun _=>rfl)) ?_
 refine ops_nil ?_
 refine nx_next ?_
 refine at_if_bool (fun _=>rfl) (fun hc1 => ?_) (fun hc1 => ?_)
 ·
  cases hc1
 ·
  refine at_skip ?_
  refine nx_next ?_
  refine at_seq ?_
  refine at_region ?_
  refine op_v (p_assign (fun _=>rfl)) ?_
  refine ops_nil ?_
  refine nx_next ?_
  refine at_seq ?_
  refine at_seq ?_
  refine at_region ?_
  refine op_v (p_move (fun _=>rfl)) ?_
  refine op_v (p_nilChk (fun _=>rfl) rfl) ?_
  refine op_v (p_fieldAddr0 (off := 4) Tryz.underlying109 rfl rfl Tryz.sizeOf4 (fun _=>rfl)) ?_
  refine op_r (by repeat (first | exact Has.here _ | apply Has.there)) (p_load Tryz.isAgg4 (fun _=>rfl) (by rfl)) rfl rfl ?_
  refine op_v (p_move (fun _=>rfl)) ?_
  refine ops_split_bool (t := 18) (fun _=>rfl) rfl (fun hb => ?_) (fun hb => ?_)
  ·
   cases hb
  ·
   refine op_wg (fun _=>rfl) (p_move (fun _=>rfl)) rfl rfl ?_
   refine op_wg (fun _=>rfl) (p_move (fun _=>rfl)) rfl rfl ?_
   refine op_e (w_callR (vs := [_, _]) (fun _=>rfl) Tryz.call54 (fun _=>rfl) rfl (contains_some g cap cur Ta za ls hin (by omega)) (by repeat (first | exact Pull.nil _ | (apply Pull.cons; (focus (repeat (first | exact One.here _ _ | apply One.there))))))) (fun _=>rfl) rfl rfl ?_
   rintro _ _ ⟨rfl, rfl⟩
   refine op_v (p_pick_f (fun _=>rfl) (fun _=>rfl)) ?_
   refine ops_nil ?_
   refine nx_slots (env' := [(0, _), (1, _), (22, _)]) [0, 1, 22] rfl (fun _=>rfl) ?_
   refine nx_next ?_
   refine at_if_bool (fun _=>rfl) (fun hl => ?_) (fun hl => ?_)
   ·
    rw [hany] at hl; cases hl
   ·
    refine at_skip ?_
    refine nx_next ?_
    refine at_seq ?_
    refine at_region ?_
    refine op_v (p_move (fun _=>rfl)) ?_
    refine op_v (p_nilChk (fun _=>rfl) rfl) ?_
    refine op_v (p_fieldAddr0 (off := 0) Tryz.underlying109 rfl rfl Tryz.sizeOf107 (fun _=>rfl)) ?_
    refine op_r (by repeat (first | exact Has.here _ | apply Has.there)) (p_load_agg (cs := #[_, _, _]) Tryz.isAgg107 Tryz.sizeOf107 (fun _=>rfl) (by first | decide | exact Nat.le_refl _ | (simp; done) | (simp; omega)) (by rfl)) rfl rfl ?_
    refine op_e (w_alloc Tryz.zeroValue107 (cs := #[_, _, _]) rfl) (fun _=>rfl) rfl rfl ?_
    rintro _ _ ⟨nx, rfl, rfl⟩
    refine op_e (w_store_agg Tryz.sizeOf107 (fun _=>rfl) (fun _=>rfl) (by first | (simp [Value.oneCell']; done) | (simp [Value.oneCell', Value.cells]; done)) (by repeat (first | exact Upd.here _ | apply Upd.there)) (by exact (rfl : _ = (#[.slice gv _ cv, .string (str h), .int .i64 (sz : Int)] : Array Value))) (by first | rfl | (simp; done)) (by first | decide | exact Nat.le_refl _ | (simp; done) | (simp; omega)) (by exact free_zero _)) (fun _=>rfl) rfl rfl ?_
    rintro _ _ ⟨rfl, rfl⟩
    refine ops_nil ?_
    refine nx_next ?_
    refine at_seq ?_
    refine at_region ?_
    refine op_v (p_fieldAddr0 (off := 0) Tryz.underlying107 rfl rfl Tryz.sizeOf43 (fun _=>rfl)) ?_
    refine op_r (by repeat (first | exact Has.here _ | apply Has.there)) (p_load Tryz.isAgg43 (fun _=>rfl) (by rfl)) rfl rfl ?_
    refine ops_eff (fun _=>rfl) (fits_of rfl) rfl (w_call (vs := [_]) (fun _=>rfl) Tryz.call55 (fun _=>rfl) rfl (clone_spec _ rs sr hrow (by omega)) (by repeat (first | exact Pull.nil _ | (apply Pull.cons; (focus (repeat (first | exact One.here _ _ | apply One.there))))))) ?_ no_pan
    rintro _ _ ⟨_, ⟨srn, hrn, rfl⟩, rfl⟩
    obtain ⟨gn, cn, rfl⟩ := hrn.form
    refine op_v (p_fieldAddr0 (off := 0) Tryz.underlying107 rfl rfl Tryz.sizeOf43 (fun _=>rfl)) ?_
    refine op_e (w_store Tryz.sizeOf43 (fun _=>rfl) (fun _=>rfl) rfl (by repeat (first | exact Upd.here _ | apply Upd.there)) (by rfl) (by first | decide | exact Nat.le_refl _ | (simp; done) | (simp; omega)) (by exact free_zero _)) (fun _=>rfl) rfl rfl ?_
    rintro _ _ ⟨rfl, rfl⟩
    refine ops_nil ?_
    refine nx_next ?_
    refine at_seq ?_
    refine at_region ?_
    refine op_e (w_alloc Tryz.zeroValue123 (cs := #[_, _]) rfl) (fun _=>rfl) rfl rfl ?_
    rintro _ _ ⟨bo, rfl, rfl⟩
    refine ops_nil ?_
    refine nx_next ?_
    refine at_seq ?_
    refine at_seq ?_
    refine at_region ?_
    refine op_v (p_move (fun _=>rfl)) ?_
    refine op_v (p_len_slice Tryz.underlying43 (fun _=>rfl)) ?_
    refine op_v (p_move (fun _=>rfl)) ?_
    refine ops_nil ?_
    refine nx_slots (env' := [(0, _), (6, _), (7, _), (31, _), (32, _), (33, _)]) [0, 6, 7, 31, 32, 33] rfl (fun _=>rfl) ?_
    refine nx_next ?_
    refine at_block ?_
    refine at_nil ?_
    refine at_slots (env' := [(33, _), (0, _), (6, _), (7, _), (31, _), (32, _)]) [33, 0, 6, 7, 31, 32] rfl (fun _=>rfl) ?_
    refine at_loopB (e0 := [(33, _)]) (H0 := _) (n := _) (fun m e H => ∃ (i : Nat) (vn p bv : Value) (sn sb : List Chunk), m = ls.length - i ∧ (i ≤ ls.length ∧ Row 9 vn ((rs ++ ls.take i).map strV) sn ∧ Row 5 bv ((outL h (ls.take i)).map u8v) sb ∧ (p = .pointer none ∨ p = .pointer (some ⟨bo, 0, none⟩)) ∧ (i = 0 → bv = .slice none 0 0)) ∧ e = [(33, .int .i64 (i : Int))] ∧ H = [[(nx, .cells #[vn, .string (str (headL h (ls.take i))), .int .i64 ((sz + (outL h (ls.take i)).length : Nat) : Int)] 107 (0, 0))], sn, [(bo, .cells #[p, bv] 123 (0, 0))], sb]) (by exact ⟨0, _, _, _, srn, [], rfl, ⟨Nat.zero_le _, by rw [List.take_zero, List.append_nil]; exact hrn, row_nil _, .inl rfl, fun _ => rfl⟩, rfl, rfl⟩) (by repeat (first | exact Pull.nil _ | (apply Pull.cons; (focus (repeat (first | exact One.here _ _ | apply One.there)))))) ?_
    rintro _ _ _ ⟨i, vn, p, bv, sn, sb, rfl, ⟨hi, hrown, hrowb, hp, hb0⟩, rfl, rfl⟩
    refine at_seq ?_
    refine at_region ?_
    first | refine op_v (p_lss_nat (fun _=>rfl) (fun _=>rfl)) ?_ | refine op_v (p_lss (fun _=>rfl) (fun _=>rfl)) ?_
    refine ops_nil ?_
    refine nx_next ?_
    refine at_seq ?_
    first | refine at_if (fun _=>rfl) (fun hlt => ?_) (fun hlt => ?_) | refine at_if_bool (fun _=>rfl) (fun hlt => ?_) (fun hlt => ?_)
    ·
     refine at_skip ?_
     refine nx_next ?_
     refine at_seq ?_
     refine at_block ?_
     refine at_seq ?_
     obtain ⟨x, hx⟩ : ∃ x, ls[i]? = some x := ⟨_, List.getElem?_eq_getElem hlt⟩
     have hcell : cur[i]? = some (strV x) := by
       have := hin.get i (strV x) (by rw [List.getElem?_map, hx]; rfl)
       rwa [Nat.zero_add] at this
     have hxl := hshort x (List.mem_of_getElem? hx)
     have htk : ls.take (i + 1) = ls.take i ++ [x] := by rw [List.take_add_one, hx]; rfl
     have hol := outL_len (ls.take i) h (fun r hr => hshort r (List.mem_of_mem_take hr))
     have htl : (ls.take i).length ≤ i := List.length_take_le ..
     have hrl := recS_len (headL h (ls.take i)) x hxl
     have hel := encS_len x hxl
     refine at_region ?_
     first | (refine op_v (p_indexAddr_nat0 Tryz.underlying43 Tryz.sizeOf9 (fun _=>rfl) (fun _=>rfl) ?_) ?_; (focus (omega))) | (refine op_v (p_indexAddr_nat1 Tryz.underlying43 Tryz.sizeOf9 (fun _=>rfl) (fun _=>rfl) ?_) ?_; (focus (omega)))
     refine op_r (by repeat (first | exact Has.here _ | apply Has.there)) (p_load Tryz.isAgg9 (fun _=>rfl) (by exact hcell)) rfl rfl ?_
     refine op_v (p_assign (fun _=>rfl)) ?_
     refine ops_nil ?_
     refine nx_next ?_
     refine at_region ?_
     refine op_v (p_move (fun _=>rfl)) ?_
     refine ops_eff (fun _=>rfl) (fits_of rfl) rfl (w_call (vs := [_, _]) (fun _=>rfl) Tryz.call57 (fun _=>rfl) rfl (add3 nx (sz + (outL h (ls.take i)).length) vn (rs ++ ls.take i) sn (headL h (ls.take i)) x _ _ _ hrown (headL_len _ _ hh) hxl (by omega) (by rw [List.length_append]; omega)) (by repeat (first | exact Pull.nil _ | (apply Pull.cons; (focus (repeat (first | exact One.here _ _ | apply One.there))))))) ?_ no_pan
     rintro _ _ ⟨_, ⟨rfl, vn2, sn2, hrow2, rfl⟩, rfl⟩
     refine ops_eff (fun _=>rfl) (fits_of rfl) rfl (w_call (vs := [_, _]) (fun _=>rfl) Tryz.call56 (fun _=>rfl) rfl (writeString_any bo p bv (outL h (ls.take i)) (recS (headL h (ls.take i)) x) sb hp hrowb (by omega) (by omega)) (by repeat (first | exact Pull.nil _ | (apply Pull.cons; (focus (repeat (first | exact One.here _ _ | apply One.there))))))) ?_ no_pan
     rintro _ _ ⟨_, ⟨bv2, sb2, rv, hrb2, rfl, rfl⟩, rfl⟩
     refine ops_nil ?_
     refine nx_block_normal ?_
     refine nx_next ?_
     rw [← headL_snoc x (ls.take i) h, ← htk]
     rw [show sz + (outL h (ls.take i)).length + (recS (headL h (ls.take i)) x).length = sz + (outL h (ls.take (i + 1))).length from by rw [htk, outL_snoc, List.length_append]; omega]
     refine at_region ?_
     first | (refine op_v (p_add_nat (n := 1) (fun _=>rfl) (fun _=>rfl) ?_) ?_; (focus (omega))) | (refine op_v (p_add (fun _=>rfl) (fun _=>rfl) (IntWalk.i64_in _ ?_)) ?_; (focus (omega)))
     refine op_v (p_move (fun _=>rfl)) ?_
     refine ops_nil ?_
     refine nx_slots (env' := [(33, _), (0, _), (6, _), (7, _), (31, _), (32, _)]) [33, 0, 6, 7, 31, 32] rfl (fun _=>rfl) ?_
     refine nx_againB (e' := [(33, _)]) (m := _) (H' := _) (by exact ⟨i + 1, _, _, _, _, _, rfl, ⟨by omega, by rw [htk, ← List.append_assoc]; exact hrow2, by rw [htk, outL_snoc]; exact hrb2, .inr rfl, fun h => by omega⟩, rfl, rfl⟩)
    ·
     have ei : i = ls.length := by omega
     subst ei
     rw [List.take_length] at hrown hrowb
     rw [List.take_length]
     have hol := outL_len ls h hshort
     obtain ⟨out, ho⟩ : ∃ out, out = outL h ls := ⟨_, rfl⟩
     obtain ⟨h2, hh2⟩ : ∃ h2, h2 = headL h ls := ⟨_, rfl⟩
     have hz0 : out = [] → bv = .slice none 0 0 := fun he => hb0 (by
       cases ls with
       | nil => rfl
       | cons x t =>
         have := recS_len h x (hshort x (by simp))
         have h3 := congrArg List.length (ho.symm.trans he)
         simp only [outL, List.length_append, List.length_nil] at h3
         omega)
     have htwo := outL_two h ls hshort
     rw [← ho] at hq hrowb hol htwo
     rw [← ho, ← hh2]
     rw [← hh2] at hq
     obtain ⟨gn2, cn2, rfl⟩ := hrown.form
     refine at_exit ?_
     refine nx_thru (by intro h; cases h) ?_
     refine nx_thru (by intro h; cases h) ?_
     refine nx_block_exit ?_
     refine nx_next ?_
     refine at_seq ?_
     refine at_region ?_
     refine ops_eff (fun _=>rfl) (fits_of rfl) rfl (w_call (vs := [_]) (fun _=>rfl) Tryz.call58 (fun _=>rfl) rfl (builderString_any bo p bv out sb hrowb hz0 (by omega)) (by repeat (first | exact Pull.nil _ | (apply Pull.cons; (focus (repeat (first | exact One.here _ _ | apply One.there))))))) ?_ no_pan
     rintro _ _ ⟨_, ⟨rfl, rfl⟩, rfl⟩
     refine op_v (p_assign (fun _=>rfl)) ?_
     refine ops_nil ?_
     refine nx_next ?_
     refine at_seq ?_
     refine at_block ?_
     refine at_seq ?_
     refine at_region ?_
     refine op_v (p_move (fun _=>rfl)) ?_
     refine op_w (p_len_strL Tryz.underlying9 (fun _=>rfl)) rfl rfl ?_
     refine op_v (p_move (fun _=>rfl)) ?_
     refine op_e (w_callR (vs := [_]) (fun _=>rfl) Tryz.call17 (fun _=>rfl) rfl (room_spec jp sz dp _ h false Tt d sd hR (by omega)) (by repeat (first | exact Pull.nil _ | (apply Pull.cons; (focus (repeat (first | exact One.here _ _ | apply One.there))))))) (fun _=>rfl) rfl rfl ?_
     rintro _ _ ⟨rfl, rfl⟩
     first | refine op_v (p_gtr_nat (fun _=>rfl) (fun _=>rfl)) ?_ | refine op_v (p_gtr (fun _=>rfl) (fun _=>rfl)) ?_
     refine op_v (p_assign (fun _=>rfl)) ?_
     refine ops_nil ?_
     refine nx_next ?_
     first | refine at_if (fun _=>rfl) (fun hroom => ?_) (fun hroom => ?_) | refine at_if_bool (fun _=>rfl) (fun hroom => ?_) (fun hroom => ?_)
     ·
      refine at_seq ?_
      refine at_region ?_
      refine op_v (p_assign (fun _=>rfl)) ?_
      refine ops_nil ?_
      refine nx_next ?_
      refine at_ret ?_
      refine nx_block_ret ?_
      refine nx_thru (by intro h; cases h) ?_
      refine nx_end1 (H' := _) rfl Tryz.results13 (fun _=>rfl) (by
            rw [if_pos (by omega)] at hq
            subst hq
            exact ⟨_, sr, sd, rfl, hrow, hR, rfl⟩)
     ·
      refine at_seq ?_
      refine at_region ?_
      refine op_v (p_move (fun _=>rfl)) ?_
      refine op_v (p_eql_str (fun _=>rfl) (fun _=>rfl)) ?_
      refine op_v (p_assign (fun _=>rfl)) ?_
      refine ops_nil ?_
      refine nx_next ?_
      first | refine at_if (fun _=>rfl) (fun hemp => ?_) (fun hemp => ?_) | refine at_if_bool (fun _=>rfl) (fun hemp => ?_) (fun hemp => ?_)
      ·
       refine at_seq ?_
       refine at_region ?_
       refine op_v (p_assign (fun _=>rfl)) ?_
       refine ops_nil ?_
       refine nx_slots (env' := [(4, _)]) [4] rfl (fun _=>rfl) ?_
       refine nx_next ?_
       refine at_ret ?_
       refine nx_block_ret ?_
       refine nx_thru (by intro h; cases h) ?_
       refine nx_end1 (H' := _) rfl Tryz.results13 (fun _=>rfl) (by
             rw [if_neg (by omega), if_pos (by have h4 := congrArg (fun t : ByteArray => t.data.toList) hemp; simpa [str] using h4)] at hq
             subst hq
             exact ⟨_, sr, sd, rfl, hrow, hR, rfl⟩)
      ·
       refine at_skip ?_
       refine nx_block_normal ?_
       refine nx_next ?_
       refine at_seq ?_
       refine at_seq ?_
       have hne : out ≠ [] := fun h5 => hemp (by rw [h5]; rfl)
       have h2o := htwo hne
       rw [if_neg (by omega), if_neg hne] at hq
       obtain ⟨qa, hqa⟩ : ∃ qa, qa = d.app sz out := ⟨_, rfl⟩
       rw [← hqa] at hq
       refine at_draw (n := 32) (0 :: 0 :: 2 :: 6 :: 14 :: 30 :: 62 :: 0 :: 128 :: 511 :: 0 :: 1024 :: 3072 :: 7168 :: 15360 :: 0 :: 0 :: 65536 :: 196608 :: 458752 :: 983040 :: 0 :: 2097152 :: 8356863 :: 0 :: 16777216 :: 50331648 :: 117440512 :: 251658240 :: 536870911 :: 1073741823 :: 2147483647 :: []) 1619001856 (by kernel_rfl) (by kernel_rfl) rfl ?_
       refine lin_v (D' := 1) 0 (p_move (fun _=>rfl)) ?_
       refine lin_v (D' := 3) 1 (p_move (fun _=>rfl)) ?_
       refine lin_v (D' := 7) 2 (p_nilChk (fun _=>rfl) rfl) ?_
       refine lin_v (D' := 15) 3 (p_fieldAddr0 (off := 0) Tryz.underlying109 rfl rfl Tryz.sizeOf107 (fun _=>rfl)) ?_
       refine lin_v (D' := 31) 4 (p_fieldAddr1 (off := 2) Tryz.underlying107 rfl rfl Tryz.sizeOf3 (fun _=>rfl)) ?_
       refine lin_r (D' := 63) 5 rfl rfl rfl (by repeat (first | exact Has.here _ | apply Has.there)) (p_load Tryz.isAgg3 (fun _=>rfl) (by rfl)) ?_
       first | (refine lin_v (D' := 127) 6 (p_add_nat (n := 1) (fun _=>rfl) (fun _=>rfl) ?_) ?_; (focus (omega))) | (refine lin_v (D' := 127) 6 (p_add (fun _=>rfl) (fun _=>rfl) (IntWalk.i64_in _ ?_)) ?_; (focus (omega)))
       refine lin_v (D' := 255) 7 (p_move (fun _=>rfl)) ?_
       refine lin_w (D' := 511) 8 rfl rfl rfl (p_slice_tail Tryz.underlying9 (fun _=>rfl) (fun _=>rfl) (by omega)) ?_
       refine lin_v (D' := 1535) 10 (p_move (fun _=>rfl)) ?_
       refine lin_v (D' := 3583) 11 (p_nilChk (fun _=>rfl) rfl) ?_
       refine lin_v (D' := 7679) 12 (p_fieldAddr0 (off := 3) Tryz.underlying109 rfl rfl Tryz.sizeOf26 (fun _=>rfl)) ?_
       refine lin_r (D' := 15871) 13 rfl rfl rfl (by repeat (first | exact Has.here _ | apply Has.there)) (p_load Tryz.isAgg26 (fun _=>rfl) (by rfl)) ?_
       refine lin_v (D' := 32255) 14 (p_makeFunc (vs := [_]) (us := []) (fun _=>rfl) (fun _=>rfl)) ?_
       refine lin_v (D' := 65023) 15 (p_move (fun _=>rfl)) ?_
       refine lin_v (D' := 130559) 16 (p_move (fun _=>rfl)) ?_
       refine lin_v (D' := 261631) 17 (p_nilChk (fun _=>rfl) rfl) ?_
       refine lin_v (D' := 523775) 18 (p_fieldAddr0 (off := 0) Tryz.underlying109 rfl rfl Tryz.sizeOf107 (fun _=>rfl)) ?_
       refine lin_v (D' := 1048063) 19 (p_fieldAddr1 (off := 2) Tryz.underlying107 rfl rfl Tryz.sizeOf3 (fun _=>rfl)) ?_
       refine lin_r (D' := 2096639) 20 rfl rfl rfl (by repeat (first | exact Has.here _ | apply Has.there)) (p_load Tryz.isAgg3 (fun _=>rfl) (by rfl)) ?_
       refine lin_v (D' := 4193791) 21 (p_move (fun _=>rfl)) ?_
       refine lin_w (D' := 8388095) 22 rfl rfl rfl (p_slice_head Tryz.underlying9 (fun _=>rfl) (fun _=>rfl) (by omega)) ?_
       refine lin_v (D' := 25165311) 24 (p_move (fun _=>rfl)) ?_
       refine lin_v (D' := 58719743) 25 (p_nilChk (fun _=>rfl) rfl) ?_
       refine lin_v (D' := 125828607) 26 (p_fieldAddr0 (off := 3) Tryz.underlying109 rfl rfl Tryz.sizeOf26 (fun _=>rfl)) ?_
       refine lin_r (D' := 260046335) 27 rfl rfl rfl (by repeat (first | exact Has.here _ | apply Has.there)) (p_load Tryz.isAgg26 (fun _=>rfl) (by rfl)) ?_
       refine lin_v (D' := 528481791) 28 (p_makeFunc (vs := [_]) (us := []) (fun _=>rfl) (fun _=>rfl)) ?_
       refine lin_eff (l := [9]) (by kernel_rfl) (by kernel_rfl) ?_
       refine each_cons (m := 511) (D' := 528482303) (is := [27, 20, 13, 5]) (bs := [true, true, true, false]) (T' := [(27, (_, _)), (20, (_, _)), (13, (_, _))]) rfl (fun _=>rfl) rfl rfl rfl (by kernel_rfl) rfl (w_call (vs := [_, _, _]) (fun _=>rfl) Tryz.call47 (fun _=>rfl) rfl (writing_spec _ _ _) (by repeat (first | exact Pull.nil _ | (apply Pull.cons; (focus (repeat (first | exact One.here _ _ | apply One.there))))))) ?hk_5 no_pan ?hl_5
       case hk_5 =>
        rintro _ _ ⟨_, ⟨b1, b2, b3, rfl, rfl⟩, rfl⟩
        refine ⟨keep_cons (by repeat (first | exact Has.here _ | apply Has.there)) (keep_cons (by repeat (first | exact Has.here _ | apply Has.there)) (keep_cons (by repeat (first | exact Has.here _ | apply Has.there)) (keep_nil))), ?_⟩
        refine lin_eff (l := [23]) (by kernel_rfl) (by kernel_rfl) ?_
        refine each_cons (m := 8356863) (D' := 536870911) (is := [27, 20, 13]) (bs := [true, false, true]) (T' := [(27, (_, _)), (13, (_, _))]) rfl (fun _=>rfl) rfl rfl rfl (by kernel_rfl) rfl (w_call (vs := [_, _, _]) (fun _=>rfl) Tryz.call47 (fun _=>rfl) rfl (writing_spec _ _ _) (by repeat (first | exact Pull.nil _ | (apply Pull.cons; (focus (repeat (first | exact One.here _ _ | apply One.there))))))) ?hk_6 no_pan ?hl_6
        case hk_6 =>
         rintro _ _ ⟨_, ⟨c1, c2, c3, rfl, rfl⟩, rfl⟩
         refine ⟨keep_cons (by repeat (first | exact Has.here _ | apply Has.there)) (keep_cons (by repeat (first | exact Has.here _ | apply Has.there)) (keep_nil)), ?_⟩
         refine lin_eff (l := [29]) (by kernel_rfl) (by kernel_rfl) ?_
         refine each_cons (m := 536870911) (D' := 1073741823) (is := [27, 13]) (bs := [false, false]) (T' := []) rfl (fun _=>rfl) rfl rfl rfl (by kernel_rfl) rfl (w_buildSlice (vs := [_, _, _, _]) (cs := [_, _, _, _]) Tryz.underlying181 Tryz.sizeOf111 Tryz.zeroValue111 (fun _=>rfl) rfl rfl rfl rfl rfl) ?hk_7 (fun _ _ h => h.elim) ?hl_7
         case hk_7 =>
          rintro _ _ ⟨gc, rfl, rfl⟩
          refine ⟨keep_nil, ?_⟩
          refine lin_eff (l := [30]) (by kernel_rfl) (by kernel_rfl) ?_
          refine each_cons (m := 1073741823) (D' := 2147483647) (is := []) (bs := []) (T' := []) rfl (fun _=>rfl) rfl rfl rfl (by kernel_rfl) rfl (w_call (vs := [_]) (fun _=>rfl) Tryz.call46 (fun _=>rfl) rfl (append_calls' gc b1 b2 b3 c1 c2 c3 jp dp sz _ _ _ _ _ _ _ _ _ _ _ _ out d sd hR (by omega) h2o hk) (by repeat (first | exact Pull.nil _ | (apply Pull.cons; (focus (repeat (first | exact One.here _ _ | apply One.there))))))) ?hk_8 no_pan ?hl_8
          case hk_8 =>
           rintro _ _ ⟨_, ⟨s2, rfl, hR2, rfl⟩, rfl⟩
           refine ⟨keep_nil, ?_⟩
           rw [← hqa] at hR2 ⊢
           refine lin_v (D' := 4294967295) 31 (p_assign (fun _=>rfl)) ?_
           refine lin_nil ?_
           refine nx_slots (env' := [(0, _), (6, _), (11, _)]) [0, 6, 11] rfl (fun _=>rfl) ?_
           refine nx_next ?_
           refine at_seq ?_
           refine at_region ?_
           refine op_v (p_move (fun _=>rfl)) ?_
           first | refine op_v (p_neq_nat (n := 0) (fun _=>rfl) (fun _=>rfl)) ?_ | refine op_v (p_neq (fun _=>rfl) (fun _=>rfl)) ?_
           refine ops_nil ?_
           refine nx_next ?_
           first | refine at_if (fun _=>rfl) (fun hq0 => ?_) (fun hq0 => ?_) | refine at_if_bool (fun _=>rfl) (fun hq0 => ?_) (fun hq0 => ?_)
           ·
            rw [if_pos hq0] at hq
            refine at_seq ?_
            refine at_region ?_
            refine op_v (p_move (fun _=>rfl)) ?_
            refine op_v (p_nilChk (fun _=>rfl) rfl) ?_
            refine op_v (p_fieldAddr0 (off := 4) Tryz.underlying109 rfl rfl Tryz.sizeOf4 (fun _=>rfl)) ?_
            refine op_e (w_store Tryz.sizeOf4 (fun _=>rfl) (fun _=>rfl) rfl (by repeat (first | exact Upd.here _ | apply Upd.there)) (by rfl) (by first | decide | exact Nat.le_refl _ | (simp; done) | (simp; omega)) (by exact free_zero _)) (fun _=>rfl) rfl rfl ?_
            rintro _ _ ⟨rfl, rfl⟩
            refine ops_nil ?_
            refine nx_next ?_
            refine at_seq ?_
            refine at_region ?_
            refine op_v (p_move (fun _=>rfl)) ?_
            refine op_v (p_assign (fun _=>rfl)) ?_
            refine ops_nil ?_
            refine nx_next ?_
            refine at_ret ?_
            refine nx_thru (by intro h; cases h) ?_
            refine nx_end1 (H' := _) rfl Tryz.results13 (fun _=>rfl) (by
                  subst hq
                  exact ⟨_, sr, s2, rfl, hrow, hR2, rfl⟩)
           ·
            rw [if_neg hq0] at hq
            refine at_skip ?_
            refine nx_next ?_
            refine at_seq ?_
            refine at_region ?_
            refine op_v (p_move (fun _=>rfl)) ?_
            refine op_r (by repeat (first | exact Has.here _ | apply Has.there)) (p_load_agg (cs := #[_, _, _]) Tryz.isAgg107 Tryz.sizeOf107 (fun _=>rfl) (by first | decide | exact Nat.le_refl _ | (simp; done) | (simp; omega)) (by rfl)) rfl rfl ?_
            refine op_v (p_nilChk (fun _=>rfl) rfl) ?_
            refine op_v (p_fieldAddr0 (off := 0) Tryz.underlying109 rfl rfl Tryz.sizeOf107 (fun _=>rfl)) ?_
            refine op_e (w_store_agg Tryz.sizeOf107 (fun _=>rfl) (fun _=>rfl) (by first | (simp [Value.oneCell']; done) | (simp [Value.oneCell', Value.cells]; done)) (by repeat (first | exact Upd.here _ | apply Upd.there)) (by exact (rfl : _ = (#[.slice gn2 _ cn2, .string (str h2), .int .i64 ((sz + out.length : Nat) : Int), .pointer (some ⟨dp, 0, none⟩), .bool false] : Array Value))) (by first | rfl | (simp; done)) (by first | decide | exact Nat.le_refl _ | (simp; done) | (simp; omega)) (by exact free_zero _)) (fun _=>rfl) rfl rfl ?_
            rintro _ _ ⟨rfl, rfl⟩
            refine ops_nil ?_
            refine nx_next ?_
            refine at_seq ?_
            refine at_region ?_
            refine op_v (p_assign (fun _=>rfl)) ?_
            refine ops_nil ?_
            refine nx_next ?_
            refine at_ret ?_
            refine nx_end1 (H' := _) rfl Tryz.results13 (fun _=>rfl) (by
                  subst hq
                  exact ⟨_, sn, s2, rfl, hrown, hR2, rfl⟩)
          case hl_8 =>
           exact each_nil
         case hl_7 =>
          exact each_nil
        case hl_6 =>
         exact each_nil
       case hl_5 =>
        exact each_nil

end Go.Proofs.YthbadolcncojbaaGreatDoor
