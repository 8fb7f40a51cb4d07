/- Package snapshot: header, marked, list, slices.Insert. -/
import Derived.Test.YthbadolcncojbaaGreatDoorEz
import Derived.Test.YthbadolcncojbaaGreatDoorJm6
import Derived.Test.YthbadolcncojbaaGreatDoorOp4

namespace Go.Proofs.YthbadolcncojbaaGreatDoor
open Go.Proofs.Tryz
open Go Go.RowKit Gw
set_option linter.unusedVariables false
set_option maxRecDepth 100000
attribute [local irreducible] Gw.At Gw.Nx Gw.Ops
/-- A header, an item's record, the records of a list of a generation. -/
def hdr (n : Nat) : List UInt8 := 103 :: encI (n : Int)
def itm (r : List UInt8) : List UInt8 := 105 :: r
def recsOf (n : Nat) (its : List (List UInt8)) : List (List UInt8) := hdr n :: its.map itm
def isBig (r : List UInt8) : Bool := decide (65536 ≤ r.length)
theorem big_take (ls : List (List UInt8)) (i : Nat) (x : List UInt8) (h : ls[i]? = some x) : (ls.take (i + 1)).any isBig = ((ls.take i).any isBig || isBig x) := by
  rw [List.take_add_one, h]; simp
theorem big_at (ls : List (List UInt8)) (i : Nat) (x : List UInt8) (h : ls[i]? = some x) (hx : isBig x = true) : ls.any isBig = true := by
  rw [List.any_eq_true]
  exact ⟨x, List.mem_of_getElem? h, hx⟩
theorem big_none {ls : List (List UInt8)} (h : ls.any isBig = false) : ∀ r ∈ ls, r.length < 65536 := by
  intro r hr
  have := List.any_eq_false.1 h r hr
  unfold isBig at this
  simpa using this
theorem hdr_len (n : Nat) (h : n ≤ 4611686018427387903) : (hdr n).length ≤ 10 := by
  have := encI_len (n : Int) (by omega) (by omega)
  unfold hdr; rw [List.length_cons]; omega
theorem str_cons (b : UInt8) (l : List UInt8) : (⟨#[b]⟩ : ByteArray) ++ str l = str (b :: l) := str_app [b] l
theorem itm_take (ls : List (List UInt8)) (i n : Nat) (x : List UInt8) (z : Value) (h : ls[i]? = some x) (hn : n = ls.length) :
    over ((((ls.take i).map itm).map strV ++ List.replicate (n - i) z).toArray) i [strV (itm x)] = (((ls.take (i + 1)).map itm).map strV ++ List.replicate (n - (i + 1)) z).toArray := by
  have hi : i < ls.length := (List.getElem?_eq_some_iff.1 h).1
  have hl : ((ls.take i).map itm).map strV = ((ls.take i).map itm).map strV := rfl
  have hlen : (((ls.take i).map itm).map strV).length = i := by rw [List.length_map, List.length_map, List.length_take]; exact Nat.min_eq_left (by omega)
  unfold over
  rw [List.take_left' hlen, List.length_singleton]
  have e : (((ls.take i).map itm).map strV ++ List.replicate (n - i) z).drop (i + 1) = List.replicate (n - (i + 1)) z := by
    rw [List.drop_append, List.drop_of_length_le (by omega), hlen, List.nil_append, show i + 1 - i = 1 by omega, List.drop_replicate]
    congr 1
  rw [e, List.take_add_one, h]
  simp

theorem big_spec (x : List UInt8) : DoesR Tryz.prog 131 #[.string (str x)] [] (.bool (isBig x)) := by
 refine spec_enter func131 rfl ntmps131 rfl ?_
 intro u R
 refine Zb [0] ?_
 refine Zq <| Zg <| Za Y <| Z0 <| Zx <| Zq <| Zg <| Zm Y <| Zv (p_len_str underlying9 Y) ?_
 first | refine op_v (p_geq_nat (n := 65536) Y Y) ?_ | refine op_v (p_geq Y Y) ?_
 refine Za Y <| Z0 <| Zx <| at_ret ?_
 refine nx_end1 rfl results131 Y (by exact ⟨by unfold isBig; rw [str_size], rfl⟩)

theorem bindex_some (g o cap : Nat) (cur : Array Value) (T : TypeId) (z : Nat × Nat) (ls : List (List UInt8)) (hin : CellsIn cur o (ls.map strV)) (hn : ls.length ≤ 1073741824) :
    Does Tryz.prog 108 #[.slice (some ⟨g, o, none⟩) ls.length cap, .func (.func 131) #[] #[]] [[(g, .cells cur T z)]] (fun r H' => ∃ k : Int, r = .int .i64 k ∧ decide (0 ≤ k) = ls.any isBig ∧ H' = [[(g, .cells cur T z)]]) := by
 refine spec_enter func108 rfl ntmps108 rfl ?_
 intro u R
 refine Zb [0, 1] ?_
 refine Zq <| Zg <| Za Y <| Z0 <| Zx <| Zq <| Zq <| Zg <| Zm Y <| Zv (p_len_slice underlying43 Y) <| Zm Y <| Z0 <| Zx <| at_block <| Zb [8, 0, 1, 7] ?_
 refine at_loopB (e0 := [(8, _)]) (H0 := _) (n := _) (fun m e H => ∃ (i : Nat), m = ls.length - i ∧ (i ≤ ls.length ∧ (ls.take i).any isBig = false) ∧ e = [(8, .int .i64 (i : Int))] ∧ H = []) (by exact ⟨0, rfl, ⟨Nat.zero_le _, rfl⟩, rfl, rfl⟩) (by repeat (first | exact Pull.nil _ | (apply Pull.cons; (focus (repeat (first | exact One.here _ _ | apply One.there)))))) ?_
 rintro _ _ _ ⟨i, rfl, ⟨hi, hany⟩, rfl, rfl⟩
 refine Zq <| Zg ?_
 first | refine op_v (p_lss_nat Y Y) ?_ | refine op_v (p_lss Y Y) ?_
 refine Z0 <| Zx <| Zq ?_
 first | refine at_if Y (fun hlt => ?_) (fun hlt => ?_) | refine at_if_bool Y (fun hlt => ?_) (fun hlt => ?_)
 ·
  refine at_skip <| Zx <| Zq <| at_block <| Zq <| Zg <| Zm Y <| Za Y <| Z0 <| Zx <| Zq ?_
  obtain ⟨x, hx⟩ : ∃ x, ls[i]? = some x := ⟨_, List.getElem?_eq_getElem hlt⟩
  have hcell : cur[o + i]? = some (strV x) := hin.get i (strV x) (by rw [List.getElem?_map, hx]; rfl)
  refine Zg <| Zm Y <| Zm Y <| Zm Y ?_
  first | (refine op_v (p_indexAddr_nat0 underlying43 sizeOf9 Y Y ?_) ?_; (focus (omega))) | (refine op_v (p_indexAddr_nat1 underlying43 sizeOf9 Y Y ?_) ?_; (focus (omega)))
  refine Zl isAgg9 Y (hv := by first | exact hcell | (rw [Nat.mul_one]; exact hcell)) ?_
  refine Zr [_] Y call131 Y rfl (big_spec x) ?_
  rintro _ _ ⟨rfl, rfl⟩
  refine Z0 <| Zx ?_
  refine at_if_bool Y (fun hlx => ?_) (fun hlx => ?_)
  ·
   refine Zq <| Zg <| Zm Y <| Za Y <| Z0 <| Zx <| at_ret <| nx_block_ret <| Zt <| Zt <| nx_block_ret <| Zt ?_
   refine nx_end1 rfl results108 Y (by exact ⟨(i : Int), rfl, by rw [big_at ls i x hx hlx]; exact decide_eq_true (by omega), rfl⟩)
  ·
   refine at_skip <| nx_block_normal <| Zx <| Zg ?_
   first | (refine op_v (p_add_nat (n := 1) Y Y ?_) ?_; (focus (omega))) | (refine op_v (p_add Y Y (IntWalk.i64_in _ ?_)) ?_; (focus (omega)))
   refine Zm Y <| Z0 <| Zn [8, 0, 1, 7] ?_
   refine nx_againB (e' := [(8, _)]) (m := _) (H' := _) (by exact ⟨i + 1, rfl, ⟨by omega, by rw [big_take ls i x hx, hany]; exact hlx⟩, rfl, rfl⟩)
 ·
  have ei : i = ls.length := by omega
  subst ei
  rw [List.take_length] at hany
  refine at_exit <| Zt <| Zt <| nx_block_exit <| Zx <| Zq <| Zg <| Za Y <| Z0 <| Zx <| at_ret ?_
  refine nx_end1 rfl results108 Y (by exact ⟨-1, rfl, by rw [hany]; rfl, rfl⟩)

theorem bcontains_some (g o cap : Nat) (cur : Array Value) (T : TypeId) (z : Nat × Nat) (ls : List (List UInt8)) (hin : CellsIn cur o (ls.map strV)) (hn : ls.length ≤ 1073741824) :
    DoesR Tryz.prog 54 #[.slice (some ⟨g, o, none⟩) ls.length cap, .func (.func 131) #[] #[]] [[(g, .cells cur T z)]] (.bool (ls.any isBig)) := by
 refine spec_enter func54 rfl ntmps54 rfl ?_
 intro u R
 refine Zb [0, 1] ?_
 refine Zq <| Zg <| Za Y <| Z0 <| Zx <| Zq <| Zg <| Zm Y <| Zm Y <| Zc [_, _] Y call108 Y rfl (bindex_some g o cap cur T z ls hin hn) ?_
 rintro _ _ ⟨_, ⟨k, rfl, hk, rfl⟩, rfl⟩
 first | refine op_v (p_geq_nat (n := 0) Y Y) ?_ | refine op_v (p_geq Y Y) ?_
 refine Za Y <| Z0 <| Zx <| at_ret ?_
 refine nx_end1 rfl results54 Y (by exact ⟨by rw [← hk], rfl⟩)

theorem header_spec (n : Nat) (hn : n ≤ 1000000001) : DoesR Tryz.prog 70 #[.int .i64 (n : Int)] [] (.string (str (hdr n))) := by
 have hel := encI_len (n : Int) (by omega) (by omega)
 refine spec_enter func70 rfl ntmps70 rfl ?_
 intro u R
 refine Zb [0] ?_
 refine Zq <| Zg <| Za Y <| Z0 <| Zx <| Zq <| Zg <| Zm Y <| Zr [_] Y call107 Y rfl (putInt_spec (n : Int) (by omega) (by omega)) ?_
 rintro _ _ ⟨rfl, rfl⟩
 refine Zm Y <| Zd Y rfl <| Zd Y rfl <| Za Y <| Za Y <| Z0 <| Zx <| Zq <| Zg <| Zm Y ?_
 (refine op_v (p_add_str Y Y ?_) ?_; (focus ((rw [str_size]; show 1 + _ ≤ _; omega))))
 refine Za Y <| Z0 <| Zx <| at_ret ?_
 refine nx_end1 rfl results70 Y (by exact ⟨by rw [str_cons]; rfl, rfl⟩)

theorem marked_some (g o cap : Nat) (cur : Array Value) (T : TypeId) (z : Nat × Nat) (ls : List (List UInt8)) (hin : CellsIn cur o (ls.map strV)) (hn : ls.length ≤ 1000000) (hs : ls.any isBig = false) :
    Does Tryz.prog 84 #[.slice (some ⟨g, o, none⟩) ls.length cap] [[(g, .cells cur T z)]] (fun r H' => ∃ h, r = .tuple #[.slice (some ⟨h, 0, none⟩) ls.length ls.length, .bool true] ∧ H' = [[(g, .cells cur T z)], [(h, .cells ((ls.map itm).map strV).toArray 9 (0, 0))]]) := by
 have hml : maxLen = 9223372036854775807 := rfl
 have hsh := big_none hs
 refine spec_enter func84 rfl ntmps84 rfl ?_
 intro u R
 refine Zb [0] ?_
 refine Zq <| Zg <| Za Y <| Za Y <| Z0 <| Zx <| Zq <| Zg <| Za Y <| Z0 <| Zx <| Zq <| Zq <| Zg <| Zm Y <| Zm Y <| Zr [_, _] Y call54 Y rfl (bcontains_some g o cap cur T z ls hin (by omega)) ?_
 rintro _ _ ⟨rfl, rfl⟩
 refine Z0 <| Zx ?_
 refine at_if_bool Y (fun hb => ?_) (fun hb => ?_)
 ·
  rw [hs] at hb; cases hb
 ·
  refine at_skip <| Zx <| Zq <| Zg <| Zm Y <| Zv (p_len_slice underlying43 Y) ?_
  refine Ze (w_makeSlice (by_ := 16) (l := 0) underlying43 (rfl : Tryz.prog.info? 9 = some Tryz.t9) rfl rfl rfl rfl Y Y ?_ ?_ ?_) ?_
  (focus (omega))
  (focus (omega))
  (focus (omega))
  rintro _ _ ⟨h, rfl, rfl⟩
  refine Za Y <| Z0 <| Zx <| Zq <| Zq <| Zg <| Zm Y <| Zv (p_len_slice underlying43 Y) <| Zm Y <| Z0 <| Zn [5, 14, 15, 16] ?_
  refine Zx <| at_block <| Zb [5, 16, 14, 15] ?_
  refine at_loopB (e0 := [(5, _), (16, _)]) (H0 := _) (n := _) (fun m e H => ∃ (i : Nat), m = ls.length - i ∧ (i ≤ ls.length) ∧ e = [(5, .slice (some ⟨h, 0, none⟩) i ls.length), (16, .int .i64 (i : Int))] ∧ H = [[(h, .cells (((ls.take i).map itm).map strV ++ List.replicate (ls.length - i) (Value.string ⟨#[]⟩)).toArray 9 (0, 0))]]) (by exact ⟨0, rfl, Nat.zero_le _, rfl, rfl⟩) (by repeat (first | exact Pull.nil _ | (apply Pull.cons; (focus (repeat (first | exact One.here _ _ | apply One.there)))))) ?_
  rintro _ _ _ ⟨i, rfl, hi, rfl, rfl⟩
  refine Zq <| Zg ?_
  first | refine op_v (p_lss_nat Y Y) ?_ | refine op_v (p_lss Y Y) ?_
  refine Z0 <| Zx <| Zq ?_
  first | refine at_if Y (fun hlt => ?_) (fun hlt => ?_) | refine at_if_bool Y (fun hlt => ?_) (fun hlt => ?_)
  ·
   refine at_skip <| Zx <| Zq <| at_block <| Zq ?_
   obtain ⟨x, hx⟩ : ∃ x, ls[i]? = some x := ⟨_, List.getElem?_eq_getElem hlt⟩
   have hx100 := hsh x (List.mem_of_getElem? hx)
   have hcell : cur[o + i]? = some (.string (str x)) := cellAt hin hx
   refine Zg ?_
   first | (refine op_v (p_indexAddr_nat0 underlying43 sizeOf9 Y Y ?_) ?_; (focus (omega))) | (refine op_v (p_indexAddr_nat1 underlying43 sizeOf9 Y Y ?_) ?_; (focus (omega)))
   refine Zl isAgg9 Y (hv := by first | exact hcell | (rw [Nat.mul_one]; exact hcell)) ?_
   refine Za Y <| Z0 <| Zx <| Zg <| Zm Y <| Zm Y <| op_w (p_add_str Y Y (by rw [str_size]; show 1 + _ ≤ _; omega)) rfl rfl ?_
   rw [str_cons]
   refine Ze (w_buildSlice (vs := [_]) (cs := [_]) underlying43 sizeOf9 zeroValue9 Y rfl rfl rfl rfl rfl) ?_
   rintro _ _ ⟨gt, rfl, rfl⟩
   refine Ze (w_append_fit (news := [_]) underlying43 (rfl : Tryz.prog.info? 9 = some Tryz.t9) rfl Y Y (by repeat (first | exact One.here _ _ | apply One.there)) (by repeat (first | exact Has.here _ | apply Has.there)) (by rfl) (by rfl) (by simp [Value.oneCell']) (by omega) (by simp; omega) (by exact free_zero _)) ?_
   rintro _ _ ⟨rfl, rfl⟩
   refine Za Y <| Z0 <| nx_block_normal <| Zx <| Zg ?_
   first | (refine op_v (p_add_nat (n := 1) Y Y ?_) ?_; (focus (omega))) | (refine op_v (p_add Y Y (IntWalk.i64_in _ ?_)) ?_; (focus (omega)))
   refine Zm Y <| Z0 <| Zn [5, 16, 14, 15] ?_
   refine nx_againB (e' := [(5, _), (16, _)]) (m := _) (H' := _) (by exact ⟨i + 1, rfl, by omega, rfl, by rw [← itm_take ls i ls.length x _ hx rfl]⟩)
  ·
   have ei : i = ls.length := by omega
   subst ei
   rw [List.take_length, Nat.sub_self, List.replicate_zero, List.append_nil]
   refine at_exit <| Zt <| Zt <| nx_block_exit <| Zx <| Zq <| Zg <| Zm Y <| Za Y <| Za Y <| Z0 <| Zx <| at_ret ?_
   refine nx_end2 rfl results84 Y Y (by exact ⟨h, rfl, rfl⟩)

theorem bindex_zero (p : Option Addr) (cap : Nat) (f : Value) : DoesR Tryz.prog 108 #[.slice p 0 cap, f] [] (.int .i64 (-1)) := by
 refine spec_enter func108 rfl ntmps108 rfl ?_
 intro u R
 refine Zb [0, 1] ?_
 refine Zq <| Zg <| Za Y <| Z0 <| Zx <| Zq <| Zq <| Zg <| Zm Y <| Zv (p_len_slice underlying43 Y) <| Zm Y <| Z0 <| Zx <| at_block <| Zb [8, 0, 1, 7] ?_
 refine at_loopB (e0 := [(8, _)]) (H0 := _) (n := _) (fun m e H => ∃ (i : Nat), m = 0 + i ∧ (True) ∧ e = [(8, .int .i64 (i : Int))] ∧ H = []) (by exact ⟨0, rfl, trivial, rfl, rfl⟩) (by repeat (first | exact Pull.nil _ | (apply Pull.cons; (focus (repeat (first | exact One.here _ _ | apply One.there)))))) ?_
 rintro _ _ _ ⟨i, rfl, _, rfl, rfl⟩
 refine Zq <| Zg ?_
 first | refine op_v (p_lss_nat Y Y) ?_ | refine op_v (p_lss Y Y) ?_
 refine Z0 <| Zx <| Zq ?_
 first | refine at_if Y (fun hc1 => ?_) (fun hc1 => ?_) | refine at_if_bool Y (fun hc1 => ?_) (fun hc1 => ?_)
 ·
  exfalso; omega
 ·
  refine at_exit <| Zt <| Zt <| nx_block_exit <| Zx <| Zq <| Zg <| Za Y <| Z0 <| Zx <| at_ret ?_
  refine nx_end1 rfl results108 Y (by exact ⟨rfl, rfl⟩)

theorem bcontains_zero (p : Option Addr) (cap : Nat) (f : Value) : DoesR Tryz.prog 54 #[.slice p 0 cap, f] [] (.bool false) := by
 refine spec_enter func54 rfl ntmps54 rfl ?_
 intro u R
 refine Zb [0, 1] ?_
 refine Zq <| Zg <| Za Y <| Z0 <| Zx <| Zq <| Zg <| Zm Y <| Zm Y <| Zr [_, _] Y call108 Y rfl (bindex_zero _ _ _) ?_
 rintro _ _ ⟨rfl, rfl⟩
 first | refine op_v (p_geq_nat (n := 0) Y Y) ?_ | refine op_v (p_geq Y Y) ?_
 refine Za Y <| Z0 <| Zx <| at_ret ?_
 refine nx_end1 rfl results54 Y (by exact ⟨rfl, rfl⟩)

theorem marked_zero (p : Option Addr) (cap : Nat) : Does Tryz.prog 84 #[.slice p 0 cap] [] (fun r H' => ∃ h, r = .tuple #[.slice (some ⟨h, 0, none⟩) 0 0, .bool true] ∧ H' = [[(h, .cells ([] : List Value).toArray 9 (0, 0))]]) := by
 refine spec_enter func84 rfl ntmps84 rfl ?_
 intro u R
 refine Zb [0] ?_
 refine Zq <| Zg <| Za Y <| Za Y <| Z0 <| Zx <| Zq <| Zg <| Za Y <| Z0 <| Zx <| Zq <| Zq <| Zg <| Zm Y <| Zm Y <| Zr [_, _] Y call54 Y rfl (bcontains_zero _ _ _) ?_
 rintro _ _ ⟨rfl, rfl⟩
 refine Z0 <| Zx ?_
 refine at_if_bool Y (fun hb => ?_) (fun hb => ?_)
 ·
  cases hb
 ·
  refine at_skip <| Zx <| Zq <| Zg <| Zm Y <| Zv (p_len_slice underlying43 Y) ?_
  refine Ze (w_makeSlice (by_ := 16) (l := 0) underlying43 (rfl : Tryz.prog.info? 9 = some Tryz.t9) rfl rfl rfl rfl Y Y ?_ ?_ ?_) ?_
  (focus (omega))
  (focus (omega))
  (focus (omega))
  rintro _ _ ⟨h, rfl, rfl⟩
  refine Za Y <| Z0 <| Zx <| Zq <| Zq <| Zg <| Zm Y <| Zv (p_len_slice underlying43 Y) <| Zm Y <| Z0 <| Zn [5, 14, 15, 16] ?_
  refine Zx <| at_block <| Zb [5, 16, 14, 15] ?_
  refine at_loopB (e0 := [(5, _), (16, _)]) (H0 := _) (n := _) (fun m e H => ∃ (i : Nat), m = 0 + i ∧ (True) ∧ e = [(5, .slice (some ⟨h, 0, none⟩) 0 0), (16, .int .i64 (i : Int))] ∧ H = []) (by exact ⟨0, rfl, trivial, rfl, rfl⟩) (by repeat (first | exact Pull.nil _ | (apply Pull.cons; (focus (repeat (first | exact One.here _ _ | apply One.there)))))) ?_
  rintro _ _ _ ⟨i, rfl, _, rfl, rfl⟩
  refine Zq <| Zg ?_
  first | refine op_v (p_lss_nat Y Y) ?_ | refine op_v (p_lss Y Y) ?_
  refine Z0 <| Zx <| Zq ?_
  first | refine at_if Y (fun hlt => ?_) (fun hlt => ?_) | refine at_if_bool Y (fun hlt => ?_) (fun hlt => ?_)
  ·
   exfalso; omega
  ·
   refine at_exit <| Zt <| Zt <| nx_block_exit <| Zx <| Zq <| Zg <| Zm Y <| Za Y <| Za Y <| Z0 <| Zx <| at_ret ?_
   refine nx_end2 rfl results84 Y Y (by exact ⟨h, rfl, rfl⟩)

theorem marked_row {v : Value} {ls : List (List UInt8)} {sl : List Chunk} (h : Row 9 v (ls.map strV) sl) (hn : ls.length ≤ 1000000) (hs : ls.any isBig = false) :
    Does Tryz.prog 84 #[v] [sl] (fun r H' => ∃ h, r = .tuple #[.slice (some ⟨h, 0, none⟩) ls.length ls.length, .bool true] ∧ H' = [sl, [(h, .cells ((ls.map itm).map strV).toArray 9 (0, 0))]]) := by
  by_cases h0 : ls = []
  · subst h0
    obtain ⟨b, c, rfl⟩ := h.form
    refine does_perm (does_frame (H := [sl]) (marked_zero b c) [sl] rfl) (List.Perm.refl _) ?_
    rintro r _ ⟨H2, ⟨g, rfl, rfl⟩, rfl⟩
    refine ⟨_, ⟨g, rfl, rfl⟩, ?_⟩
    simp only [List.flatten_cons, List.flatten_nil, List.append_nil, List.cons_append, List.nil_append, List.map_nil]
    exact (List.perm_append_singleton _ _).symm
  · obtain ⟨g, cap, cur, z, rfl, rfl, hin⟩ := row_in h (by rw [List.length_map]; exact List.length_pos_iff.2 h0)
    rw [List.length_map]
    exact marked_some g 0 cap cur _ z ls hin hn hs
theorem marked_sub {v : Value} {ls : List (List UInt8)} {sl : List Chunk} (h : SubV v (ls.map strV) sl) (hn : ls.length ≤ 1000000) (hs : ls.any isBig = false) :
    Does Tryz.prog 84 #[v] [sl] (fun r H' => ∃ h, r = .tuple #[.slice (some ⟨h, 0, none⟩) ls.length ls.length, .bool true] ∧ H' = [sl, [(h, .cells ((ls.map itm).map strV).toArray 9 (0, 0))]]) := by
  rcases h with ⟨b, c, rfl, h0⟩ | ⟨hp, g, o, cap, cur, T, z, rfl, rfl, hin⟩
  · have h0 : ls = [] := by simpa using h0
    subst h0
    refine does_perm (does_frame (H := [sl]) (marked_zero b c) [sl] rfl) (List.Perm.refl _) ?_
    rintro r _ ⟨H2, ⟨g, rfl, rfl⟩, rfl⟩
    refine ⟨_, ⟨g, rfl, rfl⟩, ?_⟩
    simp only [List.flatten_cons, List.flatten_nil, List.append_nil, List.cons_append, List.nil_append, List.map_nil]
    exact (List.perm_append_singleton _ _).symm
  · rw [List.length_map]
    exact marked_some g o cap cur T z ls hin hn hs
theorem dec_hdr (n : Nat) (h : n ≤ 4611686018427387903) : decI (hdr n) 1 = some ((n : Int), (hdr n).length) := by
  have := decI_enc [103] [] n h
  rw [List.append_nil] at this
  have e : (hdr n).length = 1 + (encI (n : Int)).length := by unfold hdr; rw [List.length_cons]; omega
  rw [e]; exact this
theorem str_ne (b : UInt8) (l : List UInt8) : ¬ str (b :: l) = ⟨#[]⟩ := fun e => by
  have h9 := congrArg (fun t : ByteArray => t.data.toList) e
  simp [str] at h9
theorem over_two (cur : Array Value) (x : Value) (ys : List Value) (h : ys.length + 1 ≤ cur.size) : (over (over cur 0 [x]) 1 ys).toList.take (ys.length + 1) = x :: ys ∧ (over (over cur 0 [x]) 1 ys).size = cur.size := by
  have hl : cur.toList.length = cur.size := Array.length_toList
  unfold over
  constructor
  · simp only [List.take_zero, List.nil_append, List.length_singleton, Nat.zero_add, List.singleton_append, List.take_succ_cons, List.take_zero, List.cons_append]
    simp
  · simp; omega
theorem over_size (cur : Array Value) (i : Nat) (vs : List Value) (h : i + vs.length ≤ cur.size) : (over cur i vs).size = cur.size := by
  unfold over; simp; omega
theorem take_one (ls : List (List UInt8)) (i : Nat) (x : List UInt8) (h : ls[i]? = some x) : (ls.take (i + 1)).map strV = (ls.take i).map strV ++ [strV x] := by
  rw [List.take_add_one, h]; simp
theorem cut_one (g cap : Nat) (h : 1 < cap) : cutAt (some ⟨g, 0, none⟩) 1 cap 1 = some ⟨g, 0 + 1, none⟩ := by
  unfold cutAt
  rw [if_neg (by omega), Option.map_some, add_addr]

theorem list_nil (j : JrS) (jp dp : Nat) (sj : List Chunk) (hJ : JrR j jp dp sj) (hrs : j.rs = []) : DoesR Tryz.prog 69 #[.agg #[.pointer (some ⟨jp, 0, none⟩), .pointer (some ⟨dp, 0, none⟩)]] [sj] (.tuple #[.int .i64 0, .slice none 0 0, .bool true]) := by
 refine spec_enter func69 rfl ntmps69 rfl ?_
 intro u R
 refine Zb [0] ?_
 refine Zq <| Zg <| Ze (w_box Y (cs := #[_, _]) rfl) ?_
 rintro _ _ ⟨hb, rfl, rfl⟩
 refine Za Y <| Za Y <| Za Y <| Z0 <| Zx <| Zq <| Zg <| Zh 0 underlying144 rfl rfl sizeOf30 Y <| Zl isAgg30 Y ?_
 refine Zc [_] Y call39 Y rfl (jr_records j jp dp sj hJ) ?_
 rintro _ _ ⟨_, ⟨sr, hr, rfl⟩, rfl⟩
 rw [hrs] at hr
 obtain ⟨gr, cr, rfl⟩ := hr.form
 refine Za Y <| Z0 <| Zx <| Zq <| Zq <| Zg <| Zm Y <| Zv (p_len_slice underlying43 Y) ?_
 first | refine op_v (p_eql_nat (n := 0) Y Y) ?_ | refine op_v (p_eql Y Y) ?_
 refine Z0 <| Zx ?_
 first | refine at_if Y (fun hz => ?_) (fun hz => ?_) | refine at_if_bool Y (fun hz => ?_) (fun hz => ?_)
 ·
  refine Zq <| Zg <| Za Y <| Za Y <| Za Y <| Z0 <| Zn [2, 3, 4] ?_
  refine Zx <| at_ret <| Zt ?_
  refine nx_end3 rfl results69 Y Y Y (by exact ⟨rfl, rfl⟩)
 ·
  exact absurd rfl hz

theorem list_good (j : JrS) (jp dp n : Nat) (its : List (List UInt8)) (sj : List Chunk) (hJ : JrR j jp dp sj) (hrs : j.rs = recsOf n its) (hn1 : 1 ≤ n) (hn2 : n ≤ 1000000000) (hit : ∀ r ∈ its, r.length < 65536) :
    Does Tryz.prog 69 #[.agg #[.pointer (some ⟨jp, 0, none⟩), .pointer (some ⟨dp, 0, none⟩)]] [sj] (fun r H' => ∃ v sv, r = .tuple #[.int .i64 (n : Int), v, .bool true] ∧ Row 9 v (its.map strV) sv ∧ H' = [sj, sv]) := by
 have hml : maxLen = 9223372036854775807 := rfl
 have hhl := hdr_len n (by omega)
 have hss := str_size (hdr n)
 have hlen := hJ.2.1
 rw [hrs] at hlen
 have hl1 : (recsOf n its).length = its.length + 1 := by unfold recsOf; simp
 have hint := int_spec (hdr n) 1 (by unfold hdr; simp) (by omega)
 rw [dec_hdr n (by omega)] at hint
 refine spec_enter func69 rfl ntmps69 rfl ?_
 intro u R
 refine Zb [0] ?_
 refine Zq <| Zg <| Ze (w_box Y (cs := #[_, _]) rfl) ?_
 rintro _ _ ⟨hb, rfl, rfl⟩
 refine Za Y <| Za Y <| Za Y <| Z0 <| Zx <| Zq <| Zg <| Zh 0 underlying144 rfl rfl sizeOf30 Y <| Zl isAgg30 Y ?_
 refine Zc [_] Y call39 Y rfl (jr_records j jp dp sj hJ) ?_
 rintro _ _ ⟨_, ⟨sr, hr, rfl⟩, rfl⟩
 rw [hrs] at hr
 obtain ⟨g, cap, cur, z, rfl, rfl, hin⟩ := row_in hr (by rw [List.length_map]; omega)
 obtain ⟨_, _, _, _, he1, he2, hcap, _⟩ := hr.some (by rw [List.length_map]; omega)
 injection he1 with he3 he4 he5
 subst he5
 rw [List.length_map] at hcap ⊢
 have hc0 : cur[0]? = some (.string (str (hdr n))) := by have := cellAt hin (i := 0) (x := hdr n) rfl; rwa [Nat.zero_add] at this
 refine Za Y <| Z0 <| Zx <| Zq <| Zq <| Zg <| Zm Y <| Zv (p_len_slice underlying43 Y) ?_
 first | refine op_v (p_eql_nat (n := 0) Y Y) ?_ | refine op_v (p_eql Y Y) ?_
 refine Z0 <| Zx ?_
 first | refine at_if Y (fun hz => ?_) (fun hz => ?_) | refine at_if_bool Y (fun hz => ?_) (fun hz => ?_)
 ·
  exfalso; omega
 ·
  refine at_skip <| Zx <| Zq <| Zq <| Zg <| Zm Y ?_
  first | (refine op_v (p_indexAddr_nat0 (j := 0) underlying43 sizeOf9 Y Y ?_) ?_; (focus (first | omega | (rw [hss]; unfold hdr; simp)))) | (refine op_v (p_indexAddr_nat1 (j := 0) underlying43 sizeOf9 Y Y ?_) ?_; (focus (first | omega | (rw [hss]; unfold hdr; simp))))
  refine Zl isAgg9 Y (hv := by exact hc0) ?_
  refine Zv (p_eql_str Y Y) <| Zm Y ?_
  first | refine ops_split (t := 23) Y rfl (fun hg1 => ?_) (fun hg1 => ?_) | refine ops_split_bool (t := 23) Y rfl (fun hg1 => ?_) (fun hg1 => ?_)
  ·
   exfalso; exact str_ne _ _ hg1
  ·
   refine Zf Y Y ?_
   first | (refine op_wg Y (p_indexAddr_nat0 (j := 0) underlying43 sizeOf9 Y Y ?_) rfl rfl ?_; (focus (first | omega | (rw [hss]; unfold hdr; simp)))) | (refine op_wg Y (p_indexAddr_nat1 (j := 0) underlying43 sizeOf9 Y Y ?_) rfl rfl ?_; (focus (first | omega | (rw [hss]; unfold hdr; simp))))
   refine op_rg Y (by repeat (first | exact Has.here _ | apply Has.there)) (p_load isAgg9 Y (by exact hc0)) rfl rfl ?_
   (refine op_wg Y (p_index_str (j := 0) underlying9 Y Y (byteAt_get _ _ ?_)) rfl rfl ?_; (focus (first | omega | (rw [hss]; unfold hdr; simp))))
   first | refine op_wg Y (p_neq_nat (n := 103) Y Y) rfl rfl ?_ | refine op_wg Y (p_neq Y Y) rfl rfl ?_
   refine Zv (p_pick_f Y Y) <| Z0 <| Zn [5, 29] ?_
   refine Zx ?_
   first | refine at_if Y (fun hg2 => ?_) (fun hg2 => ?_) | refine at_if_bool Y (fun hg2 => ?_) (fun hg2 => ?_)
   ·
    exfalso; exact hg2 rfl
   ·
    refine at_skip <| Zx <| Zq <| Zg <| Zm Y ?_
    first | (refine op_v (p_indexAddr_nat0 (j := 0) underlying43 sizeOf9 Y Y ?_) ?_; (focus (omega))) | (refine op_v (p_indexAddr_nat1 (j := 0) underlying43 sizeOf9 Y Y ?_) ?_; (focus (omega)))
    refine Zl isAgg9 Y (hv := by exact hc0) ?_
    refine Zr [_, _] Y call120 Y rfl (hint) ?_
    rintro _ _ ⟨rfl, rfl⟩
    refine Zm Y <| Zd Y rfl <| Zd Y rfl <| Zd Y rfl <| Za Y <| Za Y <| Za Y <| Z0 <| Zx <| Zq <| Zg <| Zm Y ?_
    first | refine op_v (p_eql_nat (n := 0) Y Y) ?_ | refine op_v (p_eql Y Y) ?_
    refine Zm Y ?_
    first | refine ops_split (t := 40) Y rfl (fun hk1 => ?_) (fun hk1 => ?_) | refine ops_split_bool (t := 40) Y rfl (fun hk1 => ?_) (fun hk1 => ?_)
    ·
     refine Zf Y Y <| Zf Y Y ?_
     first | (refine op_wg Y (p_indexAddr_nat0 (j := 0) underlying43 sizeOf9 Y Y ?_) rfl rfl ?_; (focus (omega))) | (refine op_wg Y (p_indexAddr_nat1 (j := 0) underlying43 sizeOf9 Y Y ?_) rfl rfl ?_; (focus (omega)))
     refine op_rg Y (by repeat (first | exact Has.here _ | apply Has.there)) (p_load isAgg9 Y (by exact hc0)) rfl rfl ?_
     refine op_wg Y (p_len_str underlying9 Y) rfl rfl ?_
     first | refine op_wg Y (p_eql_nat Y Y) rfl rfl ?_ | refine op_wg Y (p_eql Y Y) rfl rfl ?_
     refine Zv (p_pick_t Y Y) <| Zm Y ?_
     first | refine ops_split (t := 48) Y rfl (fun hk2 => ?_) (fun hk2 => ?_) | refine ops_split_bool (t := 48) Y rfl (fun hk2 => ?_) (fun hk2 => ?_)
     ·
      refine Zf Y Y ?_
      first | refine op_wg Y (p_geq_nat (n := 1) Y Y) rfl rfl ?_ | refine op_wg Y (p_geq Y Y) rfl rfl ?_
      refine Zv (p_pick_t Y Y) <| Zm Y ?_
      first | refine ops_split (t := 52) Y rfl (fun hk3 => ?_) (fun hk3 => ?_) | refine ops_split_bool (t := 52) Y rfl (fun hk3 => ?_) (fun hk3 => ?_)
      ·
       refine Zf Y Y ?_
       first | refine op_wg Y (p_leq_nat (n := 1000000000) Y Y) rfl rfl ?_ | refine op_wg Y (p_leq Y Y) rfl rfl ?_
       refine Zv (p_pick_t Y Y) <| Za Y <| Z0 <| Zn [5, 6, 9] ?_
       refine Zx <| Zq <| Zg <| Za Y <| Z0 <| Zx <| Zq <| Zq <| Zg <| Zm Y ?_
       (refine op_v (p_slice_slice_from (l := 1) underlying43 sizeOf9 Y Y ?_) ?_; (focus (omega)))
       refine Zv (p_len_slice underlying43 Y) <| Zm Y <| Z0 <| Zx <| at_block <| at_nil ?_
       refine Zb [9, 10, 59, 6, 57, 58] ?_
       refine at_loopB (e0 := [(9, _), (10, _), (59, _)]) (H0 := _) (n := _) (fun m e H => ∃ (i : Nat) (v : Value) (sv : List Chunk), m = its.length - i ∧ (i ≤ its.length ∧ Row 9 v ((its.take i).map strV) sv) ∧ e = [(9, .bool true), (10, v), (59, .int .i64 (i : Int))] ∧ H = [sv]) (by exact ⟨0, _, [], rfl, ⟨Nat.zero_le _, row_nil _⟩, by rw [decide_eq_true (by omega)]; rfl, rfl⟩) (by repeat (first | exact Pull.nil _ | (apply Pull.cons; (focus (repeat (first | exact One.here _ _ | apply One.there)))))) ?_
       rintro _ _ _ ⟨i, v, sv, rfl, ⟨hi, hrv⟩, rfl, rfl⟩
       obtain ⟨gv, cv, rfl⟩ := hrv.form
       have htl : (its.take i).length ≤ i := List.length_take_le ..
       refine Zq <| Zg ?_
       first | refine op_v (p_lss_nat Y Y) ?_ | refine op_v (p_lss Y Y) ?_
       refine Z0 <| Zx <| Zq ?_
       first | refine at_if Y (fun hlt => ?_) (fun hlt => ?_) | refine at_if_bool Y (fun hlt => ?_) (fun hlt => ?_)
       ·
        refine at_skip <| Zx <| Zq <| at_block <| Zq ?_
        obtain ⟨x, hx⟩ : ∃ x, its[i]? = some x := ⟨_, List.getElem?_eq_getElem (by omega)⟩
        have hx1 := hit x (List.mem_of_getElem? hx)
        have hcx : cur[0 + 1 + i]? = some (.string (str (itm x))) := by
          have := cellAt hin (i := i + 1) (x := itm x) (by unfold recsOf; rw [List.getElem?_cons_succ, List.getElem?_map, hx]; rfl)
          rw [show 0 + 1 + i = 0 + (i + 1) by omega]; exact this
        have hsx := str_size (itm x)
        have hsl : (itm x).length = x.length + 1 := rfl
        rw [cut_one g cap (by omega)]
        refine Zg ?_
        first | (refine op_v (p_indexAddr_nat0 underlying43 sizeOf9 Y Y ?_) ?_; (focus (omega))) | (refine op_v (p_indexAddr_nat1 underlying43 sizeOf9 Y Y ?_) ?_; (focus (omega)))
        refine Zl isAgg9 Y (hv := by first | exact hcx | (rw [Nat.mul_one]; exact hcx)) ?_
        refine Za Y <| Z0 <| Zx <| Zq <| Zg <| Zm Y <| Zm Y ?_
        refine ops_split_bool (t := 64) Y rfl (fun hm1 => ?_) (fun hm1 => ?_)
        ·
         refine Zf Y Y <| op_wg Y (p_neq_str Y Y) rfl rfl ?_
         refine Zv (p_pick_t Y Y) <| Zm Y ?_
         first | refine ops_split (t := 68) Y rfl (fun hm2 => ?_) (fun hm2 => ?_) | refine ops_split_bool (t := 68) Y rfl (fun hm2 => ?_) (fun hm2 => ?_)
         ·
          refine Zf Y Y ?_
          (refine op_wg Y (p_index_str (j := 0) underlying9 Y Y (byteAt_get _ _ ?_)) rfl rfl ?_; (focus (omega)))
          first | refine op_wg Y (p_eql_nat (n := 105) Y Y) rfl rfl ?_ | refine op_wg Y (p_eql Y Y) rfl rfl ?_
          refine Zv (p_pick_t Y Y) <| Za Y <| Z0 <| Zn [6, 9, 10, 12, 57, 58, 59] ?_
          refine Zx <| Zq <| Zg <| Zm Y <| Z0 <| Zx ?_
          first | refine at_if Y (fun hb9 => ?_) (fun hb9 => ?_) | refine at_if_bool Y (fun hb9 => ?_) (fun hb9 => ?_)
          ·
           refine Zg <| Zm Y <| Zm Y <| op_w (p_slice_drop underlying9 (k := 1) Y Y (by omega)) rfl rfl ?_
           refine Ze (w_buildSlice (vs := [_]) (cs := [_]) underlying43 sizeOf9 zeroValue9 Y rfl rfl rfl rfl rfl) ?_
           rintro _ _ ⟨b2, rfl, rfl⟩
           refine Ze (w_append (by_ := 16) (news := [_]) underlying43 (rfl : Tryz.prog.info? 9 = some Tryz.t9) rfl rfl rfl rfl Y hrv Y (by repeat (first | exact One.here _ _ | apply One.there)) (by repeat (first | exact Has.here _ | apply Has.there)) (by rfl) rfl (by simp [Value.oneCell']) (by decide) (by (simp only [List.length_map]; omega)) (by (simp only [List.length_map]; omega))) ?_
           rintro _ _ ⟨sq, hrq, rfl⟩
           obtain ⟨gq, cq, rfl⟩ := hrq.form
           refine Za Y <| Z0 <| nx_block_normal <| Zx <| Zg ?_
           first | (refine op_v (p_add_nat (n := 1) Y Y ?_) ?_; (focus (omega))) | (refine op_v (p_add Y Y (IntWalk.i64_in _ ?_)) ?_; (focus (omega)))
           refine Zm Y <| Z0 <| Zn [9, 10, 59, 6, 57, 58] ?_
           refine nx_againB (e' := [(9, _), (10, _), (59, _)]) (m := _) (H' := _) (by exact ⟨i + 1, _, _, rfl, ⟨by omega, by rw [take_one its i x hx]; exact hrq⟩, by rw [decide_eq_true hb9], rfl⟩)
          ·
           exact absurd rfl hb9
         ·
          exact absurd (Classical.not_not.1 hm2) (str_ne _ _)
        ·
         cases hm1
       ·
        have ei : i = its.length := by omega
        subst ei
        rw [List.take_length] at hrv ⊢
        refine at_exit <| Zt <| Zt <| nx_block_exit <| Zx <| Zq <| Zg <| Zm Y <| Zm Y <| Zm Y <| Za Y <| Za Y <| Za Y <| Z0 <| Zx <| at_ret ?_
        refine nx_end3 rfl results69 Y Y Y (by exact ⟨_, _, rfl, hrv, rfl⟩)
      ·
       exfalso; omega
     ·
      exfalso; omega
    ·
     exfalso; exact hk1 rfl

theorem insert_spec (h q n : Nat) (x : List UInt8) (xs : List (List UInt8)) (hn : xs.length = n) (hn2 : n ≤ 1000000) :
    Does Tryz.prog 86 #[.slice (some ⟨h, 0, none⟩) n n, .int .i64 ((0 : Nat) : Int), .slice (some ⟨q, 0, none⟩) 1 1] [[(h, .cells (xs.map strV).toArray 9 (0, 0))], [(q, .cells #[strV x] 9 (0, 0))]] (fun r H' => ∃ s', Row 9 r ((x :: xs).map strV) s' ∧ H' = [s']) := by
 have hml : maxLen = 9223372036854775807 := rfl
 have hr1 := row_new 9 h (xs.map strV) n (by rw [List.length_map]; exact hn) (by omega)
 have hr2 := row_new 9 q [strV x] 1 rfl (by decide)
 refine spec_enter func86 rfl ntmps86 rfl ?_
 intro u R
 refine Zb [0, 1, 2] ?_
 refine Zq <| Zg <| Za Y <| Z0 <| Zx <| Zq <| Zg <| Zm Y <| Zm Y ?_
 (refine op_v (p_slice_slice_from underlying43 sizeOf9 Y Y ?_) ?_; (focus (omega)))
 refine Z0 <| Zx <| Zq <| Zg <| Zm Y <| Zv (p_len_slice underlying43 Y) <| Za Y <| Z0 <| Zx <| Zq <| Zq <| Zg <| Zm Y ?_
 first | refine op_v (p_eql_nat (n := 0) Y Y) ?_ | refine op_v (p_eql Y Y) ?_
 refine Z0 <| Zx ?_
 first | refine at_if Y (fun hz1 => ?_) (fun hz1 => ?_) | refine at_if_bool Y (fun hz1 => ?_) (fun hz1 => ?_)
 ·
  cases hz1
 ·
  refine at_skip <| Zx <| Zq <| Zg <| Zm Y <| Zv (p_len_slice underlying43 Y) <| Za Y <| Z0 <| Zx <| Zq <| Zq <| Zg <| Zm Y <| Zm Y ?_
  first | refine op_v (p_eql_nat Y Y) ?_ | refine op_v (p_eql Y Y) ?_
  refine Z0 <| Zn [0, 1, 2, 7, 8, 22] ?_
  refine Zx ?_
  first | refine at_if Y (fun hi0 => ?_) (fun hi0 => ?_) | refine at_if_bool Y (fun hi0 => ?_) (fun hi0 => ?_)
  ·
   refine Zq <| Zg <| Zm Y <| Zm Y ?_
   refine Ze (w_append_row (by_ := 16) underlying43 (rfl : Tryz.prog.info? 9 = some Tryz.t9) rfl rfl rfl rfl Y (hr1) Y (hr2) (by repeat (first | exact One.here _ _ | apply One.there)) (by repeat (first | exact One.here _ _ | apply One.there)) (by simp [Value.oneCell', strV]) (by (simp only [List.length_map, List.length_cons, List.length_nil]; omega)) (by (simp only [List.length_map, List.length_cons, List.length_nil]; omega))) ?_
   rintro _ _ ⟨sp, hrp, rfl⟩
   have hx0 : xs = [] := List.eq_nil_of_length_eq_zero (by omega)
   subst hx0
   obtain ⟨gp, cp, rfl⟩ := hrp.form
   refine Za Y <| Z0 <| Zx <| at_ret <| Zt ?_
   refine nx_end1 rfl results86 Y (by exact ⟨_, hrp, rfl⟩)
  ·
   refine at_skip <| Zx <| Zq <| Zq <| Zg <| Zm Y <| Zm Y ?_
   first | (refine op_v (p_add_nat Y Y ?_) ?_; (focus (omega))) | (refine op_v (p_add Y Y (IntWalk.i64_in _ ?_)) ?_; (focus (omega)))
   refine Zm Y <| Zv (p_cap_slice underlying43 Y) ?_
   first | refine op_v (p_gtr_nat Y Y) ?_ | refine op_v (p_gtr Y Y) ?_
   refine Z0 <| Zx ?_
   first | refine at_if Y (fun hgt => ?_) (fun hgt => ?_) | refine at_if_bool Y (fun hgt => ?_) (fun hgt => ?_)
   ·
    refine Zq <| Zg <| Zm Y <| Zm Y ?_
    (refine op_v (p_slice_slice_to underlying43 sizeOf9 Y Y ?_) ?_; (focus (omega)))
    refine Zm Y <| Zm Y ?_
    first | (refine op_v (p_add_nat Y Y ?_) ?_; (focus (omega))) | (refine op_v (p_add Y Y (IntWalk.i64_in _ ?_)) ?_; (focus (omega)))
    refine Zm Y ?_
    first | (refine op_v (p_sub_nat Y Y ?_ ?_) ?_; (focus (omega)); (focus (omega))) | (refine op_v (p_sub Y Y (IntWalk.i64_in _ ?_)) ?_; (focus (omega)))
    refine Ze (w_append_make (by_ := 16) underlying43 underlying3 (rfl : Tryz.prog.info? 9 = some Tryz.t9) rfl rfl rfl rfl Y Y (by omega) (by omega) (by omega)) ?_
    rintro _ _ ⟨sm, hrm, rfl⟩
    obtain ⟨g2, cap2, cur2, z2, rfl, rfl, hle2, hcm2, hcs2, htk2, hfr2⟩ := hrm.some (by rw [List.length_replicate]; omega)
    rw [List.length_replicate] at hle2 ⊢
    refine Za Y <| Z0 <| Zn [0, 1, 2, 7, 9] ?_
    refine Zx <| Zq <| Zg <| Zm Y <| Zm Y ?_
    (refine op_v (p_slice_slice_from1 underlying43 sizeOf9 Y Y ?_ ?_) ?_; (focus (omega)); (focus (omega)))
    refine Zm Y <| Ze (w_copy (cs := [strV x]) (c' := over cur2 0 [strV x]) underlying43 sizeOf9 Y Y (by repeat (first | exact Has.here _ | apply Has.there)) (by repeat (first | exact Upd.here _ | apply Upd.there)) (by rfl) (by show 1 = min 1 _; rw [Nat.min_eq_left (by omega)]) rfl (by show 0 + 0 + 1 ≤ _; omega) hfr2 (by simp [Value.oneCell', strV])) ?_
    rintro _ _ ⟨rfl, rfl⟩
    refine Z0 <| Zx <| Zq <| at_draw (n := 9) (0 :: 0 :: 0 :: 6 :: 15 :: 0 :: 0 :: 96 :: 255 :: []) 256 (by kernel_rfl) (by kernel_rfl) rfl ?_
    refine Zi 1 0 rfl (p_move Y) <| Zi 3 1 rfl (p_move Y) <| Zi 7 2 rfl (p_move Y) ?_
    first | (refine lin_v (D' := 15) 3 (p_add_nat Y Y ?_) ?_; (focus (omega))) | (refine lin_v (D' := 15) 3 (p_add Y Y (IntWalk.i64_in _ ?_)) ?_; (focus (omega)))
    (refine lin_v (D' := 31) 4 (p_slice_slice_from1 underlying43 sizeOf9 Y Y ?_ ?_) ?_; (focus (omega)); (focus (omega)))
    refine Zi 63 5 rfl (p_move Y) <| Zi 127 6 rfl (p_move Y) ?_
    (refine lin_v (D' := 255) 7 (p_slice_slice_from1 underlying43 sizeOf9 Y Y ?_ ?_) ?_; (focus (omega)); (focus (omega)))
    refine Zz (l := [8]) ?_
    refine Zy 255 511 [] [] [] rfl Y rfl rfl rfl rfl (w_copy (cs := xs.map strV) (c' := over (over cur2 0 [strV x]) 1 (xs.map strV)) underlying43 sizeOf9 Y Y (by repeat (first | exact Has.here _ | apply Has.there)) (by repeat (first | exact Upd.here _ | apply Upd.there)) (by unfold CellsIn; simp; exact List.take_of_length_le (by simp)) (by rw [List.length_map, hn, Nat.min_eq_left (by omega)]; omega) rfl (by rw [List.length_map, over_size _ _ _ (by simp; omega)]; omega) (by rw [over_size _ _ _ (by simp; omega)]; exact hfr2) (by simp [Value.oneCell', strV])) ?hk_2 (fun _ _ h => h.elim) ?hl_2
    case hk_2 =>
     rintro _ _ ⟨rfl, rfl⟩
     refine ⟨keep_nil, ?_⟩
     refine lin_nil ?_
     refine Zn [9] ?_
     refine Zx <| Zq <| Zg <| Zm Y <| Za Y <| Z0 <| Zx <| at_ret <| Zt ?_
     refine nx_end1 rfl results86 Y (by exact ⟨_, .inr ⟨g2, cap2, _, z2, by simp only [List.length_map, List.length_cons]; congr 1; omega, rfl, by simp only [List.length_map, List.length_cons]; omega, hcm2, by rw [(over_two cur2 (strV x) (xs.map strV) (by rw [List.length_map]; omega)).2]; exact hcs2, by have := (over_two cur2 (strV x) (xs.map strV) (by rw [List.length_map]; omega)).1; simp only [List.map_cons, List.length_cons]; exact this, by rw [(over_two cur2 (strV x) (xs.map strV) (by rw [List.length_map]; omega)).2]; exact hfr2⟩, rfl⟩)
    case hl_2 =>
     exact each_nil
   ·
    exfalso; omega

end Go.Proofs.YthbadolcncojbaaGreatDoor
