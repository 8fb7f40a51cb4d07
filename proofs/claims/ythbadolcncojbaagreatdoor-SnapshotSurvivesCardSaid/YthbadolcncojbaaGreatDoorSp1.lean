/- Package snapshot: header, marked, list, slices.Insert. -/
import Derived.Test.YthbadolcncojbaaGreatDoorJm6
import Derived.Test.YthbadolcncojbaaGreatDoorOp4

namespace Go.Proofs.YthbadolcncojbaaGreatDoor
open Go Go.RowKit Gw
set_option linter.unusedVariables false
set_option maxRecDepth 100000
attribute [local irreducible] Gw.At Gw.Nx Gw.Ops
/-- A header, an item's record, the records of a list of a generation. -/
def hdr (n : Nat) : List UInt8 := 103 :: encI (n : Int)
def itm (r : List UInt8) : List UInt8 := 105 :: r
def recsOf (n : Nat) (its : List (List UInt8)) : List (List UInt8) := hdr n :: its.map itm
def isBig (r : List UInt8) : Bool := decide (65536 ≤ r.length)
theorem big_take (ls : List (List UInt8)) (i : Nat) (x : List UInt8) (h : ls[i]? = some x) : (ls.take (i + 1)).any isBig = ((ls.take i).any isBig || isBig x) := by
  rw [List.take_add_one, h]; simp
theorem big_at (ls : List (List UInt8)) (i : Nat) (x : List UInt8) (h : ls[i]? = some x) (hx : isBig x = true) : ls.any isBig = true := by
  rw [List.any_eq_true]
  exact ⟨x, List.mem_of_getElem? h, hx⟩
theorem big_none {ls : List (List UInt8)} (h : ls.any isBig = false) : ∀ r ∈ ls, r.length < 65536 := by
  intro r hr
  have := List.any_eq_false.1 h r hr
  unfold isBig at this
  simpa using this
theorem hdr_len (n : Nat) (h : n ≤ 4611686018427387903) : (hdr n).length ≤ 10 := by
  have := encI_len (n : Int) (by omega) (by omega)
  unfold hdr; rw [List.length_cons]; omega
theorem str_cons (b : UInt8) (l : List UInt8) : (⟨#[b]⟩ : ByteArray) ++ str l = str (b :: l) := str_app [b] l
theorem itm_take (ls : List (List UInt8)) (i n : Nat) (x : List UInt8) (z : Value) (h : ls[i]? = some x) (hn : n = ls.length) :
    over ((((ls.take i).map itm).map strV ++ List.replicate (n - i) z).toArray) i [strV (itm x)] = (((ls.take (i + 1)).map itm).map strV ++ List.replicate (n - (i + 1)) z).toArray := by
  have hi : i < ls.length := (List.getElem?_eq_some_iff.1 h).1
  have hl : ((ls.take i).map itm).map strV = ((ls.take i).map itm).map strV := rfl
  have hlen : (((ls.take i).map itm).map strV).length = i := by rw [List.length_map, List.length_map, List.length_take]; exact Nat.min_eq_left (by omega)
  unfold over
  rw [List.take_left' hlen, List.length_singleton]
  have e : (((ls.take i).map itm).map strV ++ List.replicate (n - i) z).drop (i + 1) = List.replicate (n - (i + 1)) z := by
    rw [List.drop_append, List.drop_of_length_le (by omega), hlen, List.nil_append, show i + 1 - i = 1 by omega, List.drop_replicate]
    congr 1
  rw [e, List.take_add_one, h]
  simp

theorem big_spec (x : List UInt8) : DoesR Tryz.prog 131 #[.string (str x)] [] (.bool (isBig x)) := by
 refine spec_enter Tryz.func131 rfl Tryz.ntmps131 rfl ?_
 intro u R
 refine at_slots (env' := [(0, _)]) [0] rfl (fun _=>rfl) ?_
 refine at_seq ?_
 refine at_region ?_
 refine op_v (p_assign (fun _=>rfl)) ?_
 refine ops_nil ?_
 refine nx_next ?_
 refine at_seq ?_
 refine at_region ?_
 refine op_v (p_move (fun _=>rfl)) ?_
 refine op_v (p_len_str Tryz.underlying9 (fun _=>rfl)) ?_
 first | refine op_v (p_geq_nat (n := 65536) (fun _=>rfl) (fun _=>rfl)) ?_ | refine op_v (p_geq (fun _=>rfl) (fun _=>rfl)) ?_
 refine op_v (p_assign (fun _=>rfl)) ?_
 refine ops_nil ?_
 refine nx_next ?_
 refine at_ret ?_
 refine nx_end1 (H' := _) rfl Tryz.results131 (fun _=>rfl) (by exact ⟨by unfold isBig; rw [str_size], rfl⟩)

theorem bindex_some (g o cap : Nat) (cur : Array Value) (T : TypeId) (z : Nat × Nat) (ls : List (List UInt8)) (hin : CellsIn cur o (ls.map strV)) (hn : ls.length ≤ 1073741824) :
    Does Tryz.prog 108 #[.slice (some ⟨g, o, none⟩) ls.length cap, .func (.func 131) #[] #[]] [[(g, .cells cur T z)]] (fun r H' => ∃ k : Int, r = .int .i64 k ∧ decide (0 ≤ k) = ls.any isBig ∧ H' = [[(g, .cells cur T z)]]) := by
 refine spec_enter Tryz.func108 rfl Tryz.ntmps108 rfl ?_
 intro u R
 refine at_slots (env' := [(0, _), (1, _)]) [0, 1] rfl (fun _=>rfl) ?_
 refine at_seq ?_
 refine at_region ?_
 refine op_v (p_assign (fun _=>rfl)) ?_
 refine ops_nil ?_
 refine nx_next ?_
 refine at_seq ?_
 refine at_seq ?_
 refine at_region ?_
 refine op_v (p_move (fun _=>rfl)) ?_
 refine op_v (p_len_slice Tryz.underlying43 (fun _=>rfl)) ?_
 refine op_v (p_move (fun _=>rfl)) ?_
 refine ops_nil ?_
 refine nx_next ?_
 refine at_block ?_
 refine at_slots (env' := [(8, _), (0, _), (1, _), (7, _)]) [8, 0, 1, 7] rfl (fun _=>rfl) ?_
 refine at_loopB (e0 := [(8, _)]) (H0 := _) (n := _) (fun m e H => ∃ (i : Nat), m = ls.length - i ∧ (i ≤ ls.length ∧ (ls.take i).any isBig = false) ∧ e = [(8, .int .i64 (i : Int))] ∧ H = []) (by exact ⟨0, rfl, ⟨Nat.zero_le _, rfl⟩, rfl, rfl⟩) (by repeat (first | exact Pull.nil _ | (apply Pull.cons; (focus (repeat (first | exact One.here _ _ | apply One.there)))))) ?_
 rintro _ _ _ ⟨i, rfl, ⟨hi, hany⟩, rfl, rfl⟩
 refine at_seq ?_
 refine at_region ?_
 first | refine op_v (p_lss_nat (fun _=>rfl) (fun _=>rfl)) ?_ | refine op_v (p_lss (fun _=>rfl) (fun _=>rfl)) ?_
 refine ops_nil ?_
 refine nx_next ?_
 refine at_seq ?_
 first | refine at_if (fun _=>rfl) (fun hlt => ?_) (fun hlt => ?_) | refine at_if_bool (fun _=>rfl) (fun hlt => ?_) (fun hlt => ?_)
 ·
  refine at_skip ?_
  refine nx_next ?_
  refine at_seq ?_
  refine at_block ?_
  refine at_seq ?_
  refine at_region ?_
  refine op_v (p_move (fun _=>rfl)) ?_
  refine op_v (p_assign (fun _=>rfl)) ?_
  refine ops_nil ?_
  refine nx_next ?_
  refine at_seq ?_
  obtain ⟨x, hx⟩ : ∃ x, ls[i]? = some x := ⟨_, List.getElem?_eq_getElem hlt⟩
  have hcell : cur[o + i]? = some (strV x) := hin.get i (strV x) (by rw [List.getElem?_map, hx]; rfl)
  refine at_region ?_
  refine op_v (p_move (fun _=>rfl)) ?_
  refine op_v (p_move (fun _=>rfl)) ?_
  refine op_v (p_move (fun _=>rfl)) ?_
  first | (refine op_v (p_indexAddr_nat0 Tryz.underlying43 Tryz.sizeOf9 (fun _=>rfl) (fun _=>rfl) ?_) ?_; (focus (omega))) | (refine op_v (p_indexAddr_nat1 Tryz.underlying43 Tryz.sizeOf9 (fun _=>rfl) (fun _=>rfl) ?_) ?_; (focus (omega)))
  refine op_r (by repeat (first | exact Has.here _ | apply Has.there)) (p_load Tryz.isAgg9 (fun _=>rfl) (by first | exact hcell | (rw [Nat.mul_one]; exact hcell))) rfl rfl ?_
  refine op_e (w_callR (vs := [_]) (fun _=>rfl) Tryz.call131 (fun _=>rfl) rfl (big_spec x) (by repeat (first | exact Pull.nil _ | (apply Pull.cons; (focus (repeat (first | exact One.here _ _ | apply One.there))))))) (fun _=>rfl) rfl rfl ?_
  rintro _ _ ⟨rfl, rfl⟩
  refine ops_nil ?_
  refine nx_next ?_
  refine at_if_bool (fun _=>rfl) (fun hlx => ?_) (fun hlx => ?_)
  ·
   refine at_seq ?_
   refine at_region ?_
   refine op_v (p_move (fun _=>rfl)) ?_
   refine op_v (p_assign (fun _=>rfl)) ?_
   refine ops_nil ?_
   refine nx_next ?_
   refine at_ret ?_
   refine nx_block_ret ?_
   refine nx_thru (by intro h; cases h) ?_
   refine nx_thru (by intro h; cases h) ?_
   refine nx_block_ret ?_
   refine nx_thru (by intro h; cases h) ?_
   refine nx_end1 (H' := _) rfl Tryz.results108 (fun _=>rfl) (by exact ⟨(i : Int), rfl, by rw [big_at ls i x hx hlx]; exact decide_eq_true (by omega), rfl⟩)
  ·
   refine at_skip ?_
   refine nx_block_normal ?_
   refine nx_next ?_
   refine at_region ?_
   first | (refine op_v (p_add_nat (n := 1) (fun _=>rfl) (fun _=>rfl) ?_) ?_; (focus (omega))) | (refine op_v (p_add (fun _=>rfl) (fun _=>rfl) (IntWalk.i64_in _ ?_)) ?_; (focus (omega)))
   refine op_v (p_move (fun _=>rfl)) ?_
   refine ops_nil ?_
   refine nx_slots (env' := [(8, _), (0, _), (1, _), (7, _)]) [8, 0, 1, 7] rfl (fun _=>rfl) ?_
   refine nx_againB (e' := [(8, _)]) (m := _) (H' := _) (by exact ⟨i + 1, rfl, ⟨by omega, by rw [big_take ls i x hx, hany]; exact hlx⟩, rfl, rfl⟩)
 ·
  have ei : i = ls.length := by omega
  subst ei
  rw [List.take_length] at hany
  refine at_exit ?_
  refine nx_thru (by intro h; cases h) ?_
  refine nx_thru (by intro h; cases h) ?_
  refine nx_block_exit ?_
  refine nx_next ?_
  refine at_seq ?_
  refine at_region ?_
  refine op_v (p_assign (fun _=>rfl)) ?_
  refine ops_nil ?_
  refine nx_next ?_
  refine at_ret ?_
  refine nx_end1 (H' := _) rfl Tryz.results108 (fun _=>rfl) (by exact ⟨-1, rfl, by rw [hany]; rfl, rfl⟩)

theorem bcontains_some (g o cap : Nat) (cur : Array Value) (T : TypeId) (z : Nat × Nat) (ls : List (List UInt8)) (hin : CellsIn cur o (ls.map strV)) (hn : ls.length ≤ 1073741824) :
    DoesR Tryz.prog 54 #[.slice (some ⟨g, o, none⟩) ls.length cap, .func (.func 131) #[] #[]] [[(g, .cells cur T z)]] (.bool (ls.any isBig)) := by
 refine spec_enter Tryz.func54 rfl Tryz.ntmps54 rfl ?_
 intro u R
 refine at_slots (env' := [(0, _), (1, _)]) [0, 1] rfl (fun _=>rfl) ?_
 refine at_seq ?_
 refine at_region ?_
 refine op_v (p_assign (fun _=>rfl)) ?_
 refine ops_nil ?_
 refine nx_next ?_
 refine at_seq ?_
 refine at_region ?_
 refine op_v (p_move (fun _=>rfl)) ?_
 refine op_v (p_move (fun _=>rfl)) ?_
 refine ops_eff (fun _=>rfl) (fits_of rfl) rfl (w_call (vs := [_, _]) (fun _=>rfl) Tryz.call108 (fun _=>rfl) rfl (bindex_some g o cap cur T z ls hin hn) (by repeat (first | exact Pull.nil _ | (apply Pull.cons; (focus (repeat (first | exact One.here _ _ | apply One.there))))))) ?_ no_pan
 rintro _ _ ⟨_, ⟨k, rfl, hk, rfl⟩, rfl⟩
 first | refine op_v (p_geq_nat (n := 0) (fun _=>rfl) (fun _=>rfl)) ?_ | refine op_v (p_geq (fun _=>rfl) (fun _=>rfl)) ?_
 refine op_v (p_assign (fun _=>rfl)) ?_
 refine ops_nil ?_
 refine nx_next ?_
 refine at_ret ?_
 refine nx_end1 (H' := _) rfl Tryz.results54 (fun _=>rfl) (by exact ⟨by rw [← hk], rfl⟩)

theorem header_spec (n : Nat) (hn : n ≤ 1000000001) : DoesR Tryz.prog 70 #[.int .i64 (n : Int)] [] (.string (str (hdr n))) := by
 have hel := encI_len (n : Int) (by omega) (by omega)
 refine spec_enter Tryz.func70 rfl Tryz.ntmps70 rfl ?_
 intro u R
 refine at_slots (env' := [(0, _)]) [0] rfl (fun _=>rfl) ?_
 refine at_seq ?_
 refine at_region ?_
 refine op_v (p_assign (fun _=>rfl)) ?_
 refine ops_nil ?_
 refine nx_next ?_
 refine at_seq ?_
 refine at_region ?_
 refine op_v (p_move (fun _=>rfl)) ?_
 refine op_e (w_callR (vs := [_]) (fun _=>rfl) Tryz.call107 (fun _=>rfl) rfl (putInt_spec (n : Int) (by omega) (by omega)) (by repeat (first | exact Pull.nil _ | (apply Pull.cons; (focus (repeat (first | exact One.here _ _ | apply One.there))))))) (fun _=>rfl) rfl rfl ?_
 rintro _ _ ⟨rfl, rfl⟩
 refine op_v (p_move (fun _=>rfl)) ?_
 refine op_v (p_extract (fun _=>rfl) rfl) ?_
 refine op_v (p_extract (fun _=>rfl) rfl) ?_
 refine op_v (p_assign (fun _=>rfl)) ?_
 refine op_v (p_assign (fun _=>rfl)) ?_
 refine ops_nil ?_
 refine nx_next ?_
 refine at_seq ?_
 refine at_region ?_
 refine op_v (p_move (fun _=>rfl)) ?_
 (refine op_v (p_add_str (fun _=>rfl) (fun _=>rfl) ?_) ?_; (focus ((rw [str_size]; show 1 + _ ≤ _; omega))))
 refine op_v (p_assign (fun _=>rfl)) ?_
 refine ops_nil ?_
 refine nx_next ?_
 refine at_ret ?_
 refine nx_end1 (H' := _) rfl Tryz.results70 (fun _=>rfl) (by exact ⟨by rw [str_cons]; rfl, rfl⟩)

theorem marked_some (g o cap : Nat) (cur : Array Value) (T : TypeId) (z : Nat × Nat) (ls : List (List UInt8)) (hin : CellsIn cur o (ls.map strV)) (hn : ls.length ≤ 1000000) (hs : ls.any isBig = false) :
    Does Tryz.prog 84 #[.slice (some ⟨g, o, none⟩) ls.length cap] [[(g, .cells cur T z)]] (fun r H' => ∃ h, r = .tuple #[.slice (some ⟨h, 0, none⟩) ls.length ls.length, .bool true] ∧ H' = [[(g, .cells cur T z)], [(h, .cells ((ls.map itm).map strV).toArray 9 (0, 0))]]) := by
 have hml : maxLen = 9223372036854775807 := rfl
 have hsh := big_none hs
 refine spec_enter Tryz.func84 rfl Tryz.ntmps84 rfl ?_
 intro u R
 refine at_slots (env' := [(0, _)]) [0] rfl (fun _=>rfl) ?_
 refine at_seq ?_
 refine at_region ?_
 refine op_v (p_assign (fun _=>rfl)) ?_
 refine op_v (p_assign (fun _=>rfl)) ?_
 refine ops_nil ?_
 refine nx_next ?_
 refine at_seq ?_
 refine at_region ?_
 refine op_v (p_assign (fun _=>rfl)) ?_
 refine ops_nil ?_
 refine nx_next ?_
 refine at_seq ?_
 refine at_seq ?_
 refine at_region ?_
 refine op_v (p_move (fun _=>rfl)) ?_
 refine op_v (p_move (fun _=>rfl)) ?_
 refine op_e (w_callR (vs := [_, _]) (fun _=>rfl) Tryz.call54 (fun _=>rfl) rfl (bcontains_some g o cap cur T z ls hin (by omega)) (by repeat (first | exact Pull.nil _ | (apply Pull.cons; (focus (repeat (first | exact One.here _ _ | apply One.there))))))) (fun _=>rfl) rfl rfl ?_
 rintro _ _ ⟨rfl, rfl⟩
 refine ops_nil ?_
 refine nx_next ?_
 refine at_if_bool (fun _=>rfl) (fun hb => ?_) (fun hb => ?_)
 ·
  rw [hs] at hb; cases hb
 ·
  refine at_skip ?_
  refine nx_next ?_
  refine at_seq ?_
  refine at_region ?_
  refine op_v (p_move (fun _=>rfl)) ?_
  refine op_v (p_len_slice Tryz.underlying43 (fun _=>rfl)) ?_
  refine op_e (w_makeSlice (by_ := 16) (l := 0) Tryz.underlying43 (rfl : Tryz.prog.info? 9 = some Tryz.t9) rfl rfl rfl rfl (fun _=>rfl) (fun _=>rfl) ?_ ?_ ?_) (fun _=>rfl) rfl rfl ?_
  (focus (omega))
  (focus (omega))
  (focus (omega))
  rintro _ _ ⟨h, rfl, rfl⟩
  refine op_v (p_assign (fun _=>rfl)) ?_
  refine ops_nil ?_
  refine nx_next ?_
  refine at_seq ?_
  refine at_seq ?_
  refine at_region ?_
  refine op_v (p_move (fun _=>rfl)) ?_
  refine op_v (p_len_slice Tryz.underlying43 (fun _=>rfl)) ?_
  refine op_v (p_move (fun _=>rfl)) ?_
  refine ops_nil ?_
  refine nx_slots (env' := [(5, _), (14, _), (15, _), (16, _)]) [5, 14, 15, 16] rfl (fun _=>rfl) ?_
  refine nx_next ?_
  refine at_block ?_
  refine at_slots (env' := [(5, _), (16, _), (14, _), (15, _)]) [5, 16, 14, 15] rfl (fun _=>rfl) ?_
  refine at_loopB (e0 := [(5, _), (16, _)]) (H0 := _) (n := _) (fun m e H => ∃ (i : Nat), m = ls.length - i ∧ (i ≤ ls.length) ∧ e = [(5, .slice (some ⟨h, 0, none⟩) i ls.length), (16, .int .i64 (i : Int))] ∧ H = [[(h, .cells (((ls.take i).map itm).map strV ++ List.replicate (ls.length - i) (Value.string ⟨#[]⟩)).toArray 9 (0, 0))]]) (by exact ⟨0, rfl, Nat.zero_le _, rfl, rfl⟩) (by repeat (first | exact Pull.nil _ | (apply Pull.cons; (focus (repeat (first | exact One.here _ _ | apply One.there)))))) ?_
  rintro _ _ _ ⟨i, rfl, hi, rfl, rfl⟩
  refine at_seq ?_
  refine at_region ?_
  first | refine op_v (p_lss_nat (fun _=>rfl) (fun _=>rfl)) ?_ | refine op_v (p_lss (fun _=>rfl) (fun _=>rfl)) ?_
  refine ops_nil ?_
  refine nx_next ?_
  refine at_seq ?_
  first | refine at_if (fun _=>rfl) (fun hlt => ?_) (fun hlt => ?_) | refine at_if_bool (fun _=>rfl) (fun hlt => ?_) (fun hlt => ?_)
  ·
   refine at_skip ?_
   refine nx_next ?_
   refine at_seq ?_
   refine at_block ?_
   refine at_seq ?_
   obtain ⟨x, hx⟩ : ∃ x, ls[i]? = some x := ⟨_, List.getElem?_eq_getElem hlt⟩
   have hx100 := hsh x (List.mem_of_getElem? hx)
   have hcell : cur[o + i]? = some (.string (str x)) := cellAt hin hx
   refine at_region ?_
   first | (refine op_v (p_indexAddr_nat0 Tryz.underlying43 Tryz.sizeOf9 (fun _=>rfl) (fun _=>rfl) ?_) ?_; (focus (omega))) | (refine op_v (p_indexAddr_nat1 Tryz.underlying43 Tryz.sizeOf9 (fun _=>rfl) (fun _=>rfl) ?_) ?_; (focus (omega)))
   refine op_r (by repeat (first | exact Has.here _ | apply Has.there)) (p_load Tryz.isAgg9 (fun _=>rfl) (by first | exact hcell | (rw [Nat.mul_one]; exact hcell))) rfl rfl ?_
   refine op_v (p_assign (fun _=>rfl)) ?_
   refine ops_nil ?_
   refine nx_next ?_
   refine at_region ?_
   refine op_v (p_move (fun _=>rfl)) ?_
   refine op_v (p_move (fun _=>rfl)) ?_
   refine op_w (p_add_str (fun _=>rfl) (fun _=>rfl) (by rw [str_size]; show 1 + _ ≤ _; omega)) rfl rfl ?_
   rw [str_cons]
   refine op_e (w_buildSlice (vs := [_]) (cs := [_]) Tryz.underlying43 Tryz.sizeOf9 Tryz.zeroValue9 (fun _=>rfl) rfl rfl rfl rfl rfl) (fun _=>rfl) rfl rfl ?_
   rintro _ _ ⟨gt, rfl, rfl⟩
   refine op_e (w_append_fit (news := [_]) Tryz.underlying43 (rfl : Tryz.prog.info? 9 = some Tryz.t9) rfl (fun _=>rfl) (fun _=>rfl) (by repeat (first | exact One.here _ _ | apply One.there)) (by repeat (first | exact Has.here _ | apply Has.there)) (by rfl) (by rfl) (by simp [Value.oneCell']) (by omega) (by simp; omega) (by exact free_zero _)) (fun _=>rfl) rfl rfl ?_
   rintro _ _ ⟨rfl, rfl⟩
   refine op_v (p_assign (fun _=>rfl)) ?_
   refine ops_nil ?_
   refine nx_block_normal ?_
   refine nx_next ?_
   refine at_region ?_
   first | (refine op_v (p_add_nat (n := 1) (fun _=>rfl) (fun _=>rfl) ?_) ?_; (focus (omega))) | (refine op_v (p_add (fun _=>rfl) (fun _=>rfl) (IntWalk.i64_in _ ?_)) ?_; (focus (omega)))
   refine op_v (p_move (fun _=>rfl)) ?_
   refine ops_nil ?_
   refine nx_slots (env' := [(5, _), (16, _), (14, _), (15, _)]) [5, 16, 14, 15] rfl (fun _=>rfl) ?_
   refine nx_againB (e' := [(5, _), (16, _)]) (m := _) (H' := _) (by exact ⟨i + 1, rfl, by omega, rfl, by rw [← itm_take ls i ls.length x _ hx rfl]⟩)
  ·
   have ei : i = ls.length := by omega
   subst ei
   rw [List.take_length, Nat.sub_self, List.replicate_zero, List.append_nil]
   refine at_exit ?_
   refine nx_thru (by intro h; cases h) ?_
   refine nx_thru (by intro h; cases h) ?_
   refine nx_block_exit ?_
   refine nx_next ?_
   refine at_seq ?_
   refine at_region ?_
   refine op_v (p_move (fun _=>rfl)) ?_
   refine op_v (p_assign (fun _=>rfl)) ?_
   refine op_v (p_assign (fun _=>rfl)) ?_
   refine ops_nil ?_
   refine nx_next ?_
   refine at_ret ?_
   refine nx_end2 (H' := _) rfl Tryz.results84 (fun _=>rfl) (fun _=>rfl) (by exact ⟨h, rfl, rfl⟩)

theorem bindex_zero (p : Option Addr) (cap : Nat) (f : Value) : DoesR Tryz.prog 108 #[.slice p 0 cap, f] [] (.int .i64 (-1)) := by
 refine spec_enter Tryz.func108 rfl Tryz.ntmps108 rfl ?_
 intro u R
 refine at_slots (env' := [(0, _), (1, _)]) [0, 1] rfl (fun _=>rfl) ?_
 refine at_seq ?_
 refine at_region ?_
 refine op_v (p_assign (fun _=>rfl)) ?_
 refine ops_nil ?_
 refine nx_next ?_
 refine at_seq ?_
 refine at_seq ?_
 refine at_region ?_
 refine op_v (p_move (fun _=>rfl)) ?_
 refine op_v (p_len_slice Tryz.underlying43 (fun _=>rfl)) ?_
 refine op_v (p_move (fun _=>rfl)) ?_
 refine ops_nil ?_
 refine nx_next ?_
 refine at_block ?_
 refine at_slots (env' := [(8, _), (0, _), (1, _), (7, _)]) [8, 0, 1, 7] rfl (fun _=>rfl) ?_
 refine at_loopB (e0 := [(8, _)]) (H0 := _) (n := _) (fun m e H => ∃ (i : Nat), m = 0 + i ∧ (True) ∧ e = [(8, .int .i64 (i : Int))] ∧ H = []) (by exact ⟨0, rfl, trivial, rfl, rfl⟩) (by repeat (first | exact Pull.nil _ | (apply Pull.cons; (focus (repeat (first | exact One.here _ _ | apply One.there)))))) ?_
 rintro _ _ _ ⟨i, rfl, _, rfl, rfl⟩
 refine at_seq ?_
 refine at_region ?_
 first | refine op_v (p_lss_nat (fun _=>rfl) (fun _=>rfl)) ?_ | refine op_v (p_lss (fun _=>rfl) (fun _=>rfl)) ?_
 refine ops_nil ?_
 refine nx_next ?_
 refine at_seq ?_
 first | refine at_if (fun _=>rfl) (fun hc1 => ?_) (fun hc1 => ?_) | refine at_if_bool (fun _=>rfl) (fun hc1 => ?_) (fun hc1 => ?_)
 ·
  exfalso; omega
 ·
  refine at_exit ?_
  refine nx_thru (by intro h; cases h) ?_
  refine nx_thru (by intro h; cases h) ?_
  refine nx_block_exit ?_
  refine nx_next ?_
  refine at_seq ?_
  refine at_region ?_
  refine op_v (p_assign (fun _=>rfl)) ?_
  refine ops_nil ?_
  refine nx_next ?_
  refine at_ret ?_
  refine nx_end1 (H' := _) rfl Tryz.results108 (fun _=>rfl) (by exact ⟨rfl, rfl⟩)

theorem bcontains_zero (p : Option Addr) (cap : Nat) (f : Value) : DoesR Tryz.prog 54 #[.slice p 0 cap, f] [] (.bool false) := by
 refine spec_enter Tryz.func54 rfl Tryz.ntmps54 rfl ?_
 intro u R
 refine at_slots (env' := [(0, _), (1, _)]) [0, 1] rfl (fun _=>rfl) ?_
 refine at_seq ?_
 refine at_region ?_
 refine op_v (p_assign (fun _=>rfl)) ?_
 refine ops_nil ?_
 refine nx_next ?_
 refine at_seq ?_
 refine at_region ?_
 refine op_v (p_move (fun _=>rfl)) ?_
 refine op_v (p_move (fun _=>rfl)) ?_
 refine op_e (w_callR (vs := [_, _]) (fun _=>rfl) Tryz.call108 (fun _=>rfl) rfl (bindex_zero _ _ _) (by repeat (first | exact Pull.nil _ | (apply Pull.cons; (focus (repeat (first | exact One.here _ _ | apply One.there))))))) (fun _=>rfl) rfl rfl ?_
 rintro _ _ ⟨rfl, rfl⟩
 first | refine op_v (p_geq_nat (n := 0) (fun _=>rfl) (fun _=>rfl)) ?_ | refine op_v (p_geq (fun _=>rfl) (fun _=>rfl)) ?_
 refine op_v (p_assign (fun _=>rfl)) ?_
 refine ops_nil ?_
 refine nx_next ?_
 refine at_ret ?_
 refine nx_end1 (H' := _) rfl Tryz.results54 (fun _=>rfl) (by exact ⟨rfl, rfl⟩)

theorem marked_zero (p : Option Addr) (cap : Nat) : Does Tryz.prog 84 #[.slice p 0 cap] [] (fun r H' => ∃ h, r = .tuple #[.slice (some ⟨h, 0, none⟩) 0 0, .bool true] ∧ H' = [[(h, .cells ([] : List Value).toArray 9 (0, 0))]]) := by
 refine spec_enter Tryz.func84 rfl Tryz.ntmps84 rfl ?_
 intro u R
 refine at_slots (env' := [(0, _)]) [0] rfl (fun _=>rfl) ?_
 refine at_seq ?_
 refine at_region ?_
 refine op_v (p_assign (fun _=>rfl)) ?_
 refine op_v (p_assign (fun _=>rfl)) ?_
 refine ops_nil ?_
 refine nx_next ?_
 refine at_seq ?_
 refine at_region ?_
 refine op_v (p_assign (fun _=>rfl)) ?_
 refine ops_nil ?_
 refine nx_next ?_
 refine at_seq ?_
 refine at_seq ?_
 refine at_region ?_
 refine op_v (p_move (fun _=>rfl)) ?_
 refine op_v (p_move (fun _=>rfl)) ?_
 refine op_e (w_callR (vs := [_, _]) (fun _=>rfl) Tryz.call54 (fun _=>rfl) rfl (bcontains_zero _ _ _) (by repeat (first | exact Pull.nil _ | (apply Pull.cons; (focus (repeat (first | exact One.here _ _ | apply One.there))))))) (fun _=>rfl) rfl rfl ?_
 rintro _ _ ⟨rfl, rfl⟩
 refine ops_nil ?_
 refine nx_next ?_
 refine at_if_bool (fun _=>rfl) (fun hb => ?_) (fun hb => ?_)
 ·
  cases hb
 ·
  refine at_skip ?_
  refine nx_next ?_
  refine at_seq ?_
  refine at_region ?_
  refine op_v (p_move (fun _=>rfl)) ?_
  refine op_v (p_len_slice Tryz.underlying43 (fun _=>rfl)) ?_
  refine op_e (w_makeSlice (by_ := 16) (l := 0) Tryz.underlying43 (rfl : Tryz.prog.info? 9 = some Tryz.t9) rfl rfl rfl rfl (fun _=>rfl) (fun _=>rfl) ?_ ?_ ?_) (fun _=>rfl) rfl rfl ?_
  (focus (omega))
  (focus (omega))
  (focus (omega))
  rintro _ _ ⟨h, rfl, rfl⟩
  refine op_v (p_assign (fun _=>rfl)) ?_
  refine ops_nil ?_
  refine nx_next ?_
  refine at_seq ?_
  refine at_seq ?_
  refine at_region ?_
  refine op_v (p_move (fun _=>rfl)) ?_
  refine op_v (p_len_slice Tryz.underlying43 (fun _=>rfl)) ?_
  refine op_v (p_move (fun _=>rfl)) ?_
  refine ops_nil ?_
  refine nx_slots (env' := [(5, _), (14, _), (15, _), (16, _)]) [5, 14, 15, 16] rfl (fun _=>rfl) ?_
  refine nx_next ?_
  refine at_block ?_
  refine at_slots (env' := [(5, _), (16, _), (14, _), (15, _)]) [5, 16, 14, 15] rfl (fun _=>rfl) ?_
  refine at_loopB (e0 := [(5, _), (16, _)]) (H0 := _) (n := _) (fun m e H => ∃ (i : Nat), m = 0 + i ∧ (True) ∧ e = [(5, .slice (some ⟨h, 0, none⟩) 0 0), (16, .int .i64 (i : Int))] ∧ H = []) (by exact ⟨0, rfl, trivial, rfl, rfl⟩) (by repeat (first | exact Pull.nil _ | (apply Pull.cons; (focus (repeat (first | exact One.here _ _ | apply One.there)))))) ?_
  rintro _ _ _ ⟨i, rfl, _, rfl, rfl⟩
  refine at_seq ?_
  refine at_region ?_
  first | refine op_v (p_lss_nat (fun _=>rfl) (fun _=>rfl)) ?_ | refine op_v (p_lss (fun _=>rfl) (fun _=>rfl)) ?_
  refine ops_nil ?_
  refine nx_next ?_
  refine at_seq ?_
  first | refine at_if (fun _=>rfl) (fun hlt => ?_) (fun hlt => ?_) | refine at_if_bool (fun _=>rfl) (fun hlt => ?_) (fun hlt => ?_)
  ·
   exfalso; omega
  ·
   refine at_exit ?_
   refine nx_thru (by intro h; cases h) ?_
   refine nx_thru (by intro h; cases h) ?_
   refine nx_block_exit ?_
   refine nx_next ?_
   refine at_seq ?_
   refine at_region ?_
   refine op_v (p_move (fun _=>rfl)) ?_
   refine op_v (p_assign (fun _=>rfl)) ?_
   refine op_v (p_assign (fun _=>rfl)) ?_
   refine ops_nil ?_
   refine nx_next ?_
   refine at_ret ?_
   refine nx_end2 (H' := _) rfl Tryz.results84 (fun _=>rfl) (fun _=>rfl) (by exact ⟨h, rfl, rfl⟩)

theorem marked_row {v : Value} {ls : List (List UInt8)} {sl : List Chunk} (h : Row 9 v (ls.map strV) sl) (hn : ls.length ≤ 1000000) (hs : ls.any isBig = false) :
    Does Tryz.prog 84 #[v] [sl] (fun r H' => ∃ h, r = .tuple #[.slice (some ⟨h, 0, none⟩) ls.length ls.length, .bool true] ∧ H' = [sl, [(h, .cells ((ls.map itm).map strV).toArray 9 (0, 0))]]) := by
  by_cases h0 : ls = []
  · subst h0
    obtain ⟨b, c, rfl⟩ := h.form
    refine does_perm (does_frame (H := [sl]) (marked_zero b c) [sl] rfl) (List.Perm.refl _) ?_
    rintro r _ ⟨H2, ⟨g, rfl, rfl⟩, rfl⟩
    refine ⟨_, ⟨g, rfl, rfl⟩, ?_⟩
    simp only [List.flatten_cons, List.flatten_nil, List.append_nil, List.cons_append, List.nil_append, List.map_nil]
    exact (List.perm_append_singleton _ _).symm
  · obtain ⟨g, cap, cur, z, rfl, rfl, hin⟩ := row_in h (by rw [List.length_map]; exact List.length_pos_iff.2 h0)
    rw [List.length_map]
    exact marked_some g 0 cap cur _ z ls hin hn hs
theorem marked_sub {v : Value} {ls : List (List UInt8)} {sl : List Chunk} (h : SubV v (ls.map strV) sl) (hn : ls.length ≤ 1000000) (hs : ls.any isBig = false) :
    Does Tryz.prog 84 #[v] [sl] (fun r H' => ∃ h, r = .tuple #[.slice (some ⟨h, 0, none⟩) ls.length ls.length, .bool true] ∧ H' = [sl, [(h, .cells ((ls.map itm).map strV).toArray 9 (0, 0))]]) := by
  rcases h with ⟨b, c, rfl, h0⟩ | ⟨hp, g, o, cap, cur, T, z, rfl, rfl, hin⟩
  · have h0 : ls = [] := by simpa using h0
    subst h0
    refine does_perm (does_frame (H := [sl]) (marked_zero b c) [sl] rfl) (List.Perm.refl _) ?_
    rintro r _ ⟨H2, ⟨g, rfl, rfl⟩, rfl⟩
    refine ⟨_, ⟨g, rfl, rfl⟩, ?_⟩
    simp only [List.flatten_cons, List.flatten_nil, List.append_nil, List.cons_append, List.nil_append, List.map_nil]
    exact (List.perm_append_singleton _ _).symm
  · rw [List.length_map]
    exact marked_some g o cap cur T z ls hin hn hs
theorem dec_hdr (n : Nat) (h : n ≤ 4611686018427387903) : decI (hdr n) 1 = some ((n : Int), (hdr n).length) := by
  have := decI_enc [103] [] n h
  rw [List.append_nil] at this
  have e : (hdr n).length = 1 + (encI (n : Int)).length := by unfold hdr; rw [List.length_cons]; omega
  rw [e]; exact this
theorem str_ne (b : UInt8) (l : List UInt8) : ¬ str (b :: l) = ⟨#[]⟩ := fun e => by
  have h9 := congrArg (fun t : ByteArray => t.data.toList) e
  simp [str] at h9
theorem over_two (cur : Array Value) (x : Value) (ys : List Value) (h : ys.length + 1 ≤ cur.size) : (over (over cur 0 [x]) 1 ys).toList.take (ys.length + 1) = x :: ys ∧ (over (over cur 0 [x]) 1 ys).size = cur.size := by
  have hl : cur.toList.length = cur.size := Array.length_toList
  unfold over
  constructor
  · simp only [List.take_zero, List.nil_append, List.length_singleton, Nat.zero_add, List.singleton_append, List.take_succ_cons, List.take_zero, List.cons_append]
    simp
  · simp; omega
theorem over_size (cur : Array Value) (i : Nat) (vs : List Value) (h : i + vs.length ≤ cur.size) : (over cur i vs).size = cur.size := by
  unfold over; simp; omega
theorem take_one (ls : List (List UInt8)) (i : Nat) (x : List UInt8) (h : ls[i]? = some x) : (ls.take (i + 1)).map strV = (ls.take i).map strV ++ [strV x] := by
  rw [List.take_add_one, h]; simp
theorem cut_one (g cap : Nat) (h : 1 < cap) : cutAt (some ⟨g, 0, none⟩) 1 cap 1 = some ⟨g, 0 + 1, none⟩ := by
  unfold cutAt
  rw [if_neg (by omega), Option.map_some, add_addr]

theorem list_nil (j : JrS) (jp dp : Nat) (sj : List Chunk) (hJ : JrR j jp dp sj) (hrs : j.rs = []) : DoesR Tryz.prog 69 #[.agg #[.pointer (some ⟨jp, 0, none⟩), .pointer (some ⟨dp, 0, none⟩)]] [sj] (.tuple #[.int .i64 0, .slice none 0 0, .bool true]) := by
 refine spec_enter Tryz.func69 rfl Tryz.ntmps69 rfl ?_
 intro u R
 refine at_slots (env' := [(0, _)]) [0] rfl (fun _=>rfl) ?_
 refine at_seq ?_
 refine at_region ?_
 refine op_e (w_box (fun _=>rfl) (cs := #[_, _]) rfl) (fun _=>rfl) rfl rfl ?_
 rintro _ _ ⟨hb, rfl, rfl⟩
 refine op_v (p_assign (fun _=>rfl)) ?_
 refine op_v (p_assign (fun _=>rfl)) ?_
 refine op_v (p_assign (fun _=>rfl)) ?_
 refine ops_nil ?_
 refine nx_next ?_
 refine at_seq ?_
 refine at_region ?_
 refine op_v (p_fieldAddr0 (off := 0) Tryz.underlying144 rfl rfl Tryz.sizeOf30 (fun _=>rfl)) ?_
 refine op_r (by repeat (first | exact Has.here _ | apply Has.there)) (p_load Tryz.isAgg30 (fun _=>rfl) (by rfl)) rfl rfl ?_
 refine ops_eff (fun _=>rfl) (fits_of rfl) rfl (w_call (vs := [_]) (fun _=>rfl) Tryz.call39 (fun _=>rfl) rfl (jr_records j jp dp sj hJ) (by repeat (first | exact Pull.nil _ | (apply Pull.cons; (focus (repeat (first | exact One.here _ _ | apply One.there))))))) ?_ no_pan
 rintro _ _ ⟨_, ⟨sr, hr, rfl⟩, rfl⟩
 rw [hrs] at hr
 obtain ⟨gr, cr, rfl⟩ := hr.form
 refine op_v (p_assign (fun _=>rfl)) ?_
 refine ops_nil ?_
 refine nx_next ?_
 refine at_seq ?_
 refine at_seq ?_
 refine at_region ?_
 refine op_v (p_move (fun _=>rfl)) ?_
 refine op_v (p_len_slice Tryz.underlying43 (fun _=>rfl)) ?_
 first | refine op_v (p_eql_nat (n := 0) (fun _=>rfl) (fun _=>rfl)) ?_ | refine op_v (p_eql (fun _=>rfl) (fun _=>rfl)) ?_
 refine ops_nil ?_
 refine nx_next ?_
 first | refine at_if (fun _=>rfl) (fun hz => ?_) (fun hz => ?_) | refine at_if_bool (fun _=>rfl) (fun hz => ?_) (fun hz => ?_)
 ·
  refine at_seq ?_
  refine at_region ?_
  refine op_v (p_assign (fun _=>rfl)) ?_
  refine op_v (p_assign (fun _=>rfl)) ?_
  refine op_v (p_assign (fun _=>rfl)) ?_
  refine ops_nil ?_
  refine nx_slots (env' := [(2, _), (3, _), (4, _)]) [2, 3, 4] rfl (fun _=>rfl) ?_
  refine nx_next ?_
  refine at_ret ?_
  refine nx_thru (by intro h; cases h) ?_
  refine nx_end3 (H' := _) rfl Tryz.results69 (fun _=>rfl) (fun _=>rfl) (fun _=>rfl) (by exact ⟨rfl, rfl⟩)
 ·
  exact absurd rfl hz

theorem list_good (j : JrS) (jp dp n : Nat) (its : List (List UInt8)) (sj : List Chunk) (hJ : JrR j jp dp sj) (hrs : j.rs = recsOf n its) (hn1 : 1 ≤ n) (hn2 : n ≤ 1000000000) (hit : ∀ r ∈ its, r.length < 65536) :
    Does Tryz.prog 69 #[.agg #[.pointer (some ⟨jp, 0, none⟩), .pointer (some ⟨dp, 0, none⟩)]] [sj] (fun r H' => ∃ v sv, r = .tuple #[.int .i64 (n : Int), v, .bool true] ∧ Row 9 v (its.map strV) sv ∧ H' = [sj, sv]) := by
 have hml : maxLen = 9223372036854775807 := rfl
 have hhl := hdr_len n (by omega)
 have hss := str_size (hdr n)
 have hlen := hJ.2.1
 rw [hrs] at hlen
 have hl1 : (recsOf n its).length = its.length + 1 := by unfold recsOf; simp
 have hint := int_spec (hdr n) 1 (by unfold hdr; simp) (by omega)
 rw [dec_hdr n (by omega)] at hint
 refine spec_enter Tryz.func69 rfl Tryz.ntmps69 rfl ?_
 intro u R
 refine at_slots (env' := [(0, _)]) [0] rfl (fun _=>rfl) ?_
 refine at_seq ?_
 refine at_region ?_
 refine op_e (w_box (fun _=>rfl) (cs := #[_, _]) rfl) (fun _=>rfl) rfl rfl ?_
 rintro _ _ ⟨hb, rfl, rfl⟩
 refine op_v (p_assign (fun _=>rfl)) ?_
 refine op_v (p_assign (fun _=>rfl)) ?_
 refine op_v (p_assign (fun _=>rfl)) ?_
 refine ops_nil ?_
 refine nx_next ?_
 refine at_seq ?_
 refine at_region ?_
 refine op_v (p_fieldAddr0 (off := 0) Tryz.underlying144 rfl rfl Tryz.sizeOf30 (fun _=>rfl)) ?_
 refine op_r (by repeat (first | exact Has.here _ | apply Has.there)) (p_load Tryz.isAgg30 (fun _=>rfl) (by rfl)) rfl rfl ?_
 refine ops_eff (fun _=>rfl) (fits_of rfl) rfl (w_call (vs := [_]) (fun _=>rfl) Tryz.call39 (fun _=>rfl) rfl (jr_records j jp dp sj hJ) (by repeat (first | exact Pull.nil _ | (apply Pull.cons; (focus (repeat (first | exact One.here _ _ | apply One.there))))))) ?_ no_pan
 rintro _ _ ⟨_, ⟨sr, hr, rfl⟩, rfl⟩
 rw [hrs] at hr
 obtain ⟨g, cap, cur, z, rfl, rfl, hin⟩ := row_in hr (by rw [List.length_map]; omega)
 obtain ⟨_, _, _, _, he1, he2, hcap, _⟩ := hr.some (by rw [List.length_map]; omega)
 injection he1 with he3 he4 he5
 subst he5
 rw [List.length_map] at hcap ⊢
 have hc0 : cur[0]? = some (.string (str (hdr n))) := by have := cellAt hin (i := 0) (x := hdr n) rfl; rwa [Nat.zero_add] at this
 refine op_v (p_assign (fun _=>rfl)) ?_
 refine ops_nil ?_
 refine nx_next ?_
 refine at_seq ?_
 refine at_seq ?_
 refine at_region ?_
 refine op_v (p_move (fun _=>rfl)) ?_
 refine op_v (p_len_slice Tryz.underlying43 (fun _=>rfl)) ?_
 first | refine op_v (p_eql_nat (n := 0) (fun _=>rfl) (fun _=>rfl)) ?_ | refine op_v (p_eql (fun _=>rfl) (fun _=>rfl)) ?_
 refine ops_nil ?_
 refine nx_next ?_
 first | refine at_if (fun _=>rfl) (fun hz => ?_) (fun hz => ?_) | refine at_if_bool (fun _=>rfl) (fun hz => ?_) (fun hz => ?_)
 ·
  exfalso; omega
 ·
  refine at_skip ?_
  refine nx_next ?_
  refine at_seq ?_
  refine at_seq ?_
  refine at_region ?_
  refine op_v (p_move (fun _=>rfl)) ?_
  first | (refine op_v (p_indexAddr_nat0 (j := 0) Tryz.underlying43 Tryz.sizeOf9 (fun _=>rfl) (fun _=>rfl) ?_) ?_; (focus (first | omega | (rw [hss]; unfold hdr; simp)))) | (refine op_v (p_indexAddr_nat1 (j := 0) Tryz.underlying43 Tryz.sizeOf9 (fun _=>rfl) (fun _=>rfl) ?_) ?_; (focus (first | omega | (rw [hss]; unfold hdr; simp))))
  refine op_r (by repeat (first | exact Has.here _ | apply Has.there)) (p_load Tryz.isAgg9 (fun _=>rfl) (by exact hc0)) rfl rfl ?_
  refine op_v (p_eql_str (fun _=>rfl) (fun _=>rfl)) ?_
  refine op_v (p_move (fun _=>rfl)) ?_
  first | refine ops_split (t := 23) (fun _=>rfl) rfl (fun hg1 => ?_) (fun hg1 => ?_) | refine ops_split_bool (t := 23) (fun _=>rfl) rfl (fun hg1 => ?_) (fun hg1 => ?_)
  ·
   exfalso; exact str_ne _ _ hg1
  ·
   refine op_wg (fun _=>rfl) (p_move (fun _=>rfl)) rfl rfl ?_
   first | (refine op_wg (fun _=>rfl) (p_indexAddr_nat0 (j := 0) Tryz.underlying43 Tryz.sizeOf9 (fun _=>rfl) (fun _=>rfl) ?_) rfl rfl ?_; (focus (first | omega | (rw [hss]; unfold hdr; simp)))) | (refine op_wg (fun _=>rfl) (p_indexAddr_nat1 (j := 0) Tryz.underlying43 Tryz.sizeOf9 (fun _=>rfl) (fun _=>rfl) ?_) rfl rfl ?_; (focus (first | omega | (rw [hss]; unfold hdr; simp))))
   refine op_rg (fun _=>rfl) (by repeat (first | exact Has.here _ | apply Has.there)) (p_load Tryz.isAgg9 (fun _=>rfl) (by exact hc0)) rfl rfl ?_
   (refine op_wg (fun _=>rfl) (p_index_str (j := 0) Tryz.underlying9 (fun _=>rfl) (fun _=>rfl) (byteAt_get _ _ ?_)) rfl rfl ?_; (focus (first | omega | (rw [hss]; unfold hdr; simp))))
   first | refine op_wg (fun _=>rfl) (p_neq_nat (n := 103) (fun _=>rfl) (fun _=>rfl)) rfl rfl ?_ | refine op_wg (fun _=>rfl) (p_neq (fun _=>rfl) (fun _=>rfl)) rfl rfl ?_
   refine op_v (p_pick_f (fun _=>rfl) (fun _=>rfl)) ?_
   refine ops_nil ?_
   refine nx_slots (env' := [(5, _), (29, _)]) [5, 29] rfl (fun _=>rfl) ?_
   refine nx_next ?_
   first | refine at_if (fun _=>rfl) (fun hg2 => ?_) (fun hg2 => ?_) | refine at_if_bool (fun _=>rfl) (fun hg2 => ?_) (fun hg2 => ?_)
   ·
    exfalso; exact hg2 rfl
   ·
    refine at_skip ?_
    refine nx_next ?_
    refine at_seq ?_
    refine at_region ?_
    refine op_v (p_move (fun _=>rfl)) ?_
    first | (refine op_v (p_indexAddr_nat0 (j := 0) Tryz.underlying43 Tryz.sizeOf9 (fun _=>rfl) (fun _=>rfl) ?_) ?_; (focus (omega))) | (refine op_v (p_indexAddr_nat1 (j := 0) Tryz.underlying43 Tryz.sizeOf9 (fun _=>rfl) (fun _=>rfl) ?_) ?_; (focus (omega)))
    refine op_r (by repeat (first | exact Has.here _ | apply Has.there)) (p_load Tryz.isAgg9 (fun _=>rfl) (by exact hc0)) rfl rfl ?_
    refine op_e (w_callR (vs := [_, _]) (fun _=>rfl) Tryz.call120 (fun _=>rfl) rfl (hint) (by repeat (first | exact Pull.nil _ | (apply Pull.cons; (focus (repeat (first | exact One.here _ _ | apply One.there))))))) (fun _=>rfl) rfl rfl ?_
    rintro _ _ ⟨rfl, rfl⟩
    refine op_v (p_move (fun _=>rfl)) ?_
    refine op_v (p_extract (fun _=>rfl) rfl) ?_
    refine op_v (p_extract (fun _=>rfl) rfl) ?_
    refine op_v (p_extract (fun _=>rfl) rfl) ?_
    refine op_v (p_assign (fun _=>rfl)) ?_
    refine op_v (p_assign (fun _=>rfl)) ?_
    refine op_v (p_assign (fun _=>rfl)) ?_
    refine ops_nil ?_
    refine nx_next ?_
    refine at_seq ?_
    refine at_region ?_
    refine op_v (p_move (fun _=>rfl)) ?_
    first | refine op_v (p_eql_nat (n := 0) (fun _=>rfl) (fun _=>rfl)) ?_ | refine op_v (p_eql (fun _=>rfl) (fun _=>rfl)) ?_
    refine op_v (p_move (fun _=>rfl)) ?_
    first | refine ops_split (t := 40) (fun _=>rfl) rfl (fun hk1 => ?_) (fun hk1 => ?_) | refine ops_split_bool (t := 40) (fun _=>rfl) rfl (fun hk1 => ?_) (fun hk1 => ?_)
    ·
     refine op_wg (fun _=>rfl) (p_move (fun _=>rfl)) rfl rfl ?_
     refine op_wg (fun _=>rfl) (p_move (fun _=>rfl)) rfl rfl ?_
     first | (refine op_wg (fun _=>rfl) (p_indexAddr_nat0 (j := 0) Tryz.underlying43 Tryz.sizeOf9 (fun _=>rfl) (fun _=>rfl) ?_) rfl rfl ?_; (focus (omega))) | (refine op_wg (fun _=>rfl) (p_indexAddr_nat1 (j := 0) Tryz.underlying43 Tryz.sizeOf9 (fun _=>rfl) (fun _=>rfl) ?_) rfl rfl ?_; (focus (omega)))
     refine op_rg (fun _=>rfl) (by repeat (first | exact Has.here _ | apply Has.there)) (p_load Tryz.isAgg9 (fun _=>rfl) (by exact hc0)) rfl rfl ?_
     refine op_wg (fun _=>rfl) (p_len_str Tryz.underlying9 (fun _=>rfl)) rfl rfl ?_
     first | refine op_wg (fun _=>rfl) (p_eql_nat (fun _=>rfl) (fun _=>rfl)) rfl rfl ?_ | refine op_wg (fun _=>rfl) (p_eql (fun _=>rfl) (fun _=>rfl)) rfl rfl ?_
     refine op_v (p_pick_t (fun _=>rfl) (fun _=>rfl)) ?_
     refine op_v (p_move (fun _=>rfl)) ?_
     first | refine ops_split (t := 48) (fun _=>rfl) rfl (fun hk2 => ?_) (fun hk2 => ?_) | refine ops_split_bool (t := 48) (fun _=>rfl) rfl (fun hk2 => ?_) (fun hk2 => ?_)
     ·
      refine op_wg (fun _=>rfl) (p_move (fun _=>rfl)) rfl rfl ?_
      first | refine op_wg (fun _=>rfl) (p_geq_nat (n := 1) (fun _=>rfl) (fun _=>rfl)) rfl rfl ?_ | refine op_wg (fun _=>rfl) (p_geq (fun _=>rfl) (fun _=>rfl)) rfl rfl ?_
      refine op_v (p_pick_t (fun _=>rfl) (fun _=>rfl)) ?_
      refine op_v (p_move (fun _=>rfl)) ?_
      first | refine ops_split (t := 52) (fun _=>rfl) rfl (fun hk3 => ?_) (fun hk3 => ?_) | refine ops_split_bool (t := 52) (fun _=>rfl) rfl (fun hk3 => ?_) (fun hk3 => ?_)
      ·
       refine op_wg (fun _=>rfl) (p_move (fun _=>rfl)) rfl rfl ?_
       first | refine op_wg (fun _=>rfl) (p_leq_nat (n := 1000000000) (fun _=>rfl) (fun _=>rfl)) rfl rfl ?_ | refine op_wg (fun _=>rfl) (p_leq (fun _=>rfl) (fun _=>rfl)) rfl rfl ?_
       refine op_v (p_pick_t (fun _=>rfl) (fun _=>rfl)) ?_
       refine op_v (p_assign (fun _=>rfl)) ?_
       refine ops_nil ?_
       refine nx_slots (env' := [(5, _), (6, _), (9, _)]) [5, 6, 9] rfl (fun _=>rfl) ?_
       refine nx_next ?_
       refine at_seq ?_
       refine at_region ?_
       refine op_v (p_assign (fun _=>rfl)) ?_
       refine ops_nil ?_
       refine nx_next ?_
       refine at_seq ?_
       refine at_seq ?_
       refine at_region ?_
       refine op_v (p_move (fun _=>rfl)) ?_
       (refine op_v (p_slice_slice_from (l := 1) Tryz.underlying43 Tryz.sizeOf9 (fun _=>rfl) (fun _=>rfl) ?_) ?_; (focus (omega)))
       refine op_v (p_len_slice Tryz.underlying43 (fun _=>rfl)) ?_
       refine op_v (p_move (fun _=>rfl)) ?_
       refine ops_nil ?_
       refine nx_next ?_
       refine at_block ?_
       refine at_nil ?_
       refine at_slots (env' := [(9, _), (10, _), (59, _), (6, _), (57, _), (58, _)]) [9, 10, 59, 6, 57, 58] rfl (fun _=>rfl) ?_
       refine at_loopB (e0 := [(9, _), (10, _), (59, _)]) (H0 := _) (n := _) (fun m e H => ∃ (i : Nat) (v : Value) (sv : List Chunk), m = its.length - i ∧ (i ≤ its.length ∧ Row 9 v ((its.take i).map strV) sv) ∧ e = [(9, .bool true), (10, v), (59, .int .i64 (i : Int))] ∧ H = [sv]) (by exact ⟨0, _, [], rfl, ⟨Nat.zero_le _, row_nil _⟩, by rw [decide_eq_true (by omega)]; rfl, rfl⟩) (by repeat (first | exact Pull.nil _ | (apply Pull.cons; (focus (repeat (first | exact One.here _ _ | apply One.there)))))) ?_
       rintro _ _ _ ⟨i, v, sv, rfl, ⟨hi, hrv⟩, rfl, rfl⟩
       obtain ⟨gv, cv, rfl⟩ := hrv.form
       have htl : (its.take i).length ≤ i := List.length_take_le ..
       refine at_seq ?_
       refine at_region ?_
       first | refine op_v (p_lss_nat (fun _=>rfl) (fun _=>rfl)) ?_ | refine op_v (p_lss (fun _=>rfl) (fun _=>rfl)) ?_
       refine ops_nil ?_
       refine nx_next ?_
       refine at_seq ?_
       first | refine at_if (fun _=>rfl) (fun hlt => ?_) (fun hlt => ?_) | refine at_if_bool (fun _=>rfl) (fun hlt => ?_) (fun hlt => ?_)
       ·
        refine at_skip ?_
        refine nx_next ?_
        refine at_seq ?_
        refine at_block ?_
        refine at_seq ?_
        obtain ⟨x, hx⟩ : ∃ x, its[i]? = some x := ⟨_, List.getElem?_eq_getElem (by omega)⟩
        have hx1 := hit x (List.mem_of_getElem? hx)
        have hcx : cur[0 + 1 + i]? = some (.string (str (itm x))) := by
          have := cellAt hin (i := i + 1) (x := itm x) (by unfold recsOf; rw [List.getElem?_cons_succ, List.getElem?_map, hx]; rfl)
          rw [show 0 + 1 + i = 0 + (i + 1) by omega]; exact this
        have hsx := str_size (itm x)
        have hsl : (itm x).length = x.length + 1 := rfl
        rw [cut_one g cap (by omega)]
        refine at_region ?_
        first | (refine op_v (p_indexAddr_nat0 Tryz.underlying43 Tryz.sizeOf9 (fun _=>rfl) (fun _=>rfl) ?_) ?_; (focus (omega))) | (refine op_v (p_indexAddr_nat1 Tryz.underlying43 Tryz.sizeOf9 (fun _=>rfl) (fun _=>rfl) ?_) ?_; (focus (omega)))
        refine op_r (by repeat (first | exact Has.here _ | apply Has.there)) (p_load Tryz.isAgg9 (fun _=>rfl) (by first | exact hcx | (rw [Nat.mul_one]; exact hcx))) rfl rfl ?_
        refine op_v (p_assign (fun _=>rfl)) ?_
        refine ops_nil ?_
        refine nx_next ?_
        refine at_seq ?_
        refine at_region ?_
        refine op_v (p_move (fun _=>rfl)) ?_
        refine op_v (p_move (fun _=>rfl)) ?_
        refine ops_split_bool (t := 64) (fun _=>rfl) rfl (fun hm1 => ?_) (fun hm1 => ?_)
        ·
         refine op_wg (fun _=>rfl) (p_move (fun _=>rfl)) rfl rfl ?_
         refine op_wg (fun _=>rfl) (p_neq_str (fun _=>rfl) (fun _=>rfl)) rfl rfl ?_
         refine op_v (p_pick_t (fun _=>rfl) (fun _=>rfl)) ?_
         refine op_v (p_move (fun _=>rfl)) ?_
         first | refine ops_split (t := 68) (fun _=>rfl) rfl (fun hm2 => ?_) (fun hm2 => ?_) | refine ops_split_bool (t := 68) (fun _=>rfl) rfl (fun hm2 => ?_) (fun hm2 => ?_)
         ·
          refine op_wg (fun _=>rfl) (p_move (fun _=>rfl)) rfl rfl ?_
          (refine op_wg (fun _=>rfl) (p_index_str (j := 0) Tryz.underlying9 (fun _=>rfl) (fun _=>rfl) (byteAt_get _ _ ?_)) rfl rfl ?_; (focus (omega)))
          first | refine op_wg (fun _=>rfl) (p_eql_nat (n := 105) (fun _=>rfl) (fun _=>rfl)) rfl rfl ?_ | refine op_wg (fun _=>rfl) (p_eql (fun _=>rfl) (fun _=>rfl)) rfl rfl ?_
          refine op_v (p_pick_t (fun _=>rfl) (fun _=>rfl)) ?_
          refine op_v (p_assign (fun _=>rfl)) ?_
          refine ops_nil ?_
          refine nx_slots (env' := [(6, _), (9, _), (10, _), (12, _), (57, _), (58, _), (59, _)]) [6, 9, 10, 12, 57, 58, 59] rfl (fun _=>rfl) ?_
          refine nx_next ?_
          refine at_seq ?_
          refine at_region ?_
          refine op_v (p_move (fun _=>rfl)) ?_
          refine ops_nil ?_
          refine nx_next ?_
          first | refine at_if (fun _=>rfl) (fun hb9 => ?_) (fun hb9 => ?_) | refine at_if_bool (fun _=>rfl) (fun hb9 => ?_) (fun hb9 => ?_)
          ·
           refine at_region ?_
           refine op_v (p_move (fun _=>rfl)) ?_
           refine op_v (p_move (fun _=>rfl)) ?_
           refine op_w (p_slice_drop Tryz.underlying9 (k := 1) (fun _=>rfl) (fun _=>rfl) (by omega)) rfl rfl ?_
           refine op_e (w_buildSlice (vs := [_]) (cs := [_]) Tryz.underlying43 Tryz.sizeOf9 Tryz.zeroValue9 (fun _=>rfl) rfl rfl rfl rfl rfl) (fun _=>rfl) rfl rfl ?_
           rintro _ _ ⟨b2, rfl, rfl⟩
           refine op_e (w_append (by_ := 16) (news := [_]) Tryz.underlying43 (rfl : Tryz.prog.info? 9 = some Tryz.t9) rfl rfl rfl rfl (fun _=>rfl) hrv (fun _=>rfl) (by repeat (first | exact One.here _ _ | apply One.there)) (by repeat (first | exact Has.here _ | apply Has.there)) (by rfl) rfl (by simp [Value.oneCell']) (by decide) (by (simp only [List.length_map]; omega)) (by (simp only [List.length_map]; omega))) (fun _=>rfl) rfl rfl ?_
           rintro _ _ ⟨sq, hrq, rfl⟩
           obtain ⟨gq, cq, rfl⟩ := hrq.form
           refine op_v (p_assign (fun _=>rfl)) ?_
           refine ops_nil ?_
           refine nx_block_normal ?_
           refine nx_next ?_
           refine at_region ?_
           first | (refine op_v (p_add_nat (n := 1) (fun _=>rfl) (fun _=>rfl) ?_) ?_; (focus (omega))) | (refine op_v (p_add (fun _=>rfl) (fun _=>rfl) (IntWalk.i64_in _ ?_)) ?_; (focus (omega)))
           refine op_v (p_move (fun _=>rfl)) ?_
           refine ops_nil ?_
           refine nx_slots (env' := [(9, _), (10, _), (59, _), (6, _), (57, _), (58, _)]) [9, 10, 59, 6, 57, 58] rfl (fun _=>rfl) ?_
           refine nx_againB (e' := [(9, _), (10, _), (59, _)]) (m := _) (H' := _) (by exact ⟨i + 1, _, _, rfl, ⟨by omega, by rw [take_one its i x hx]; exact hrq⟩, by rw [decide_eq_true hb9], rfl⟩)
          ·
           exact absurd rfl hb9
         ·
          exact absurd (Classical.not_not.1 hm2) (str_ne _ _)
        ·
         cases hm1
       ·
        have ei : i = its.length := by omega
        subst ei
        rw [List.take_length] at hrv ⊢
        refine at_exit ?_
        refine nx_thru (by intro h; cases h) ?_
        refine nx_thru (by intro h; cases h) ?_
        refine nx_block_exit ?_
        refine nx_next ?_
        refine at_seq ?_
        refine at_region ?_
        refine op_v (p_move (fun _=>rfl)) ?_
        refine op_v (p_move (fun _=>rfl)) ?_
        refine op_v (p_move (fun _=>rfl)) ?_
        refine op_v (p_assign (fun _=>rfl)) ?_
        refine op_v (p_assign (fun _=>rfl)) ?_
        refine op_v (p_assign (fun _=>rfl)) ?_
        refine ops_nil ?_
        refine nx_next ?_
        refine at_ret ?_
        refine nx_end3 (H' := _) rfl Tryz.results69 (fun _=>rfl) (fun _=>rfl) (fun _=>rfl) (by exact ⟨_, _, rfl, hrv, rfl⟩)
      ·
       exfalso; omega
     ·
      exfalso; omega
    ·
     exfalso; exact hk1 rfl

theorem insert_spec (h q n : Nat) (x : List UInt8) (xs : List (List UInt8)) (hn : xs.length = n) (hn2 : n ≤ 1000000) :
    Does Tryz.prog 86 #[.slice (some ⟨h, 0, none⟩) n n, .int .i64 ((0 : Nat) : Int), .slice (some ⟨q, 0, none⟩) 1 1] [[(h, .cells (xs.map strV).toArray 9 (0, 0))], [(q, .cells #[strV x] 9 (0, 0))]] (fun r H' => ∃ s', Row 9 r ((x :: xs).map strV) s' ∧ H' = [s']) := by
 have hml : maxLen = 9223372036854775807 := rfl
 have hr1 := row_new 9 h (xs.map strV) n (by rw [List.length_map]; exact hn) (by omega)
 have hr2 := row_new 9 q [strV x] 1 rfl (by decide)
 refine spec_enter Tryz.func86 rfl Tryz.ntmps86 rfl ?_
 intro u R
 refine at_slots (env' := [(0, _), (1, _), (2, _)]) [0, 1, 2] rfl (fun _=>rfl) ?_
 refine at_seq ?_
 refine at_region ?_
 refine op_v (p_assign (fun _=>rfl)) ?_
 refine ops_nil ?_
 refine nx_next ?_
 refine at_seq ?_
 refine at_region ?_
 refine op_v (p_move (fun _=>rfl)) ?_
 refine op_v (p_move (fun _=>rfl)) ?_
 (refine op_v (p_slice_slice_from Tryz.underlying43 Tryz.sizeOf9 (fun _=>rfl) (fun _=>rfl) ?_) ?_; (focus (omega)))
 refine ops_nil ?_
 refine nx_next ?_
 refine at_seq ?_
 refine at_region ?_
 refine op_v (p_move (fun _=>rfl)) ?_
 refine op_v (p_len_slice Tryz.underlying43 (fun _=>rfl)) ?_
 refine op_v (p_assign (fun _=>rfl)) ?_
 refine ops_nil ?_
 refine nx_next ?_
 refine at_seq ?_
 refine at_seq ?_
 refine at_region ?_
 refine op_v (p_move (fun _=>rfl)) ?_
 first | refine op_v (p_eql_nat (n := 0) (fun _=>rfl) (fun _=>rfl)) ?_ | refine op_v (p_eql (fun _=>rfl) (fun _=>rfl)) ?_
 refine ops_nil ?_
 refine nx_next ?_
 first | refine at_if (fun _=>rfl) (fun hz1 => ?_) (fun hz1 => ?_) | refine at_if_bool (fun _=>rfl) (fun hz1 => ?_) (fun hz1 => ?_)
 ·
  cases hz1
 ·
  refine at_skip ?_
  refine nx_next ?_
  refine at_seq ?_
  refine at_region ?_
  refine op_v (p_move (fun _=>rfl)) ?_
  refine op_v (p_len_slice Tryz.underlying43 (fun _=>rfl)) ?_
  refine op_v (p_assign (fun _=>rfl)) ?_
  refine ops_nil ?_
  refine nx_next ?_
  refine at_seq ?_
  refine at_seq ?_
  refine at_region ?_
  refine op_v (p_move (fun _=>rfl)) ?_
  refine op_v (p_move (fun _=>rfl)) ?_
  first | refine op_v (p_eql_nat (fun _=>rfl) (fun _=>rfl)) ?_ | refine op_v (p_eql (fun _=>rfl) (fun _=>rfl)) ?_
  refine ops_nil ?_
  refine nx_slots (env' := [(0, _), (1, _), (2, _), (7, _), (8, _), (22, _)]) [0, 1, 2, 7, 8, 22] rfl (fun _=>rfl) ?_
  refine nx_next ?_
  first | refine at_if (fun _=>rfl) (fun hi0 => ?_) (fun hi0 => ?_) | refine at_if_bool (fun _=>rfl) (fun hi0 => ?_) (fun hi0 => ?_)
  ·
   refine at_seq ?_
   refine at_region ?_
   refine op_v (p_move (fun _=>rfl)) ?_
   refine op_v (p_move (fun _=>rfl)) ?_
   refine op_e (w_append_row (by_ := 16) Tryz.underlying43 (rfl : Tryz.prog.info? 9 = some Tryz.t9) rfl rfl rfl rfl (fun _=>rfl) (hr1) (fun _=>rfl) (hr2) (by repeat (first | exact One.here _ _ | apply One.there)) (by repeat (first | exact One.here _ _ | apply One.there)) (by simp [Value.oneCell', strV]) (by (simp only [List.length_map, List.length_cons, List.length_nil]; omega)) (by (simp only [List.length_map, List.length_cons, List.length_nil]; omega))) (fun _=>rfl) rfl rfl ?_
   rintro _ _ ⟨sp, hrp, rfl⟩
   have hx0 : xs = [] := List.eq_nil_of_length_eq_zero (by omega)
   subst hx0
   obtain ⟨gp, cp, rfl⟩ := hrp.form
   refine op_v (p_assign (fun _=>rfl)) ?_
   refine ops_nil ?_
   refine nx_next ?_
   refine at_ret ?_
   refine nx_thru (by intro h; cases h) ?_
   refine nx_end1 (H' := _) rfl Tryz.results86 (fun _=>rfl) (by exact ⟨_, hrp, rfl⟩)
  ·
   refine at_skip ?_
   refine nx_next ?_
   refine at_seq ?_
   refine at_seq ?_
   refine at_region ?_
   refine op_v (p_move (fun _=>rfl)) ?_
   refine op_v (p_move (fun _=>rfl)) ?_
   first | (refine op_v (p_add_nat (fun _=>rfl) (fun _=>rfl) ?_) ?_; (focus (omega))) | (refine op_v (p_add (fun _=>rfl) (fun _=>rfl) (IntWalk.i64_in _ ?_)) ?_; (focus (omega)))
   refine op_v (p_move (fun _=>rfl)) ?_
   refine op_v (p_cap_slice Tryz.underlying43 (fun _=>rfl)) ?_
   first | refine op_v (p_gtr_nat (fun _=>rfl) (fun _=>rfl)) ?_ | refine op_v (p_gtr (fun _=>rfl) (fun _=>rfl)) ?_
   refine ops_nil ?_
   refine nx_next ?_
   first | refine at_if (fun _=>rfl) (fun hgt => ?_) (fun hgt => ?_) | refine at_if_bool (fun _=>rfl) (fun hgt => ?_) (fun hgt => ?_)
   ·
    refine at_seq ?_
    refine at_region ?_
    refine op_v (p_move (fun _=>rfl)) ?_
    refine op_v (p_move (fun _=>rfl)) ?_
    (refine op_v (p_slice_slice_to Tryz.underlying43 Tryz.sizeOf9 (fun _=>rfl) (fun _=>rfl) ?_) ?_; (focus (omega)))
    refine op_v (p_move (fun _=>rfl)) ?_
    refine op_v (p_move (fun _=>rfl)) ?_
    first | (refine op_v (p_add_nat (fun _=>rfl) (fun _=>rfl) ?_) ?_; (focus (omega))) | (refine op_v (p_add (fun _=>rfl) (fun _=>rfl) (IntWalk.i64_in _ ?_)) ?_; (focus (omega)))
    refine op_v (p_move (fun _=>rfl)) ?_
    first | (refine op_v (p_sub_nat (fun _=>rfl) (fun _=>rfl) ?_ ?_) ?_; (focus (omega)); (focus (omega))) | (refine op_v (p_sub (fun _=>rfl) (fun _=>rfl) (IntWalk.i64_in _ ?_)) ?_; (focus (omega)))
    refine op_e (w_append_make (by_ := 16) Tryz.underlying43 Tryz.underlying3 (rfl : Tryz.prog.info? 9 = some Tryz.t9) rfl rfl rfl rfl (fun _=>rfl) (fun _=>rfl) (by omega) (by omega) (by omega)) (fun _=>rfl) rfl rfl ?_
    rintro _ _ ⟨sm, hrm, rfl⟩
    obtain ⟨g2, cap2, cur2, z2, rfl, rfl, hle2, hcm2, hcs2, htk2, hfr2⟩ := hrm.some (by rw [List.length_replicate]; omega)
    rw [List.length_replicate] at hle2 ⊢
    refine op_v (p_assign (fun _=>rfl)) ?_
    refine ops_nil ?_
    refine nx_slots (env' := [(0, _), (1, _), (2, _), (7, _), (9, _)]) [0, 1, 2, 7, 9] rfl (fun _=>rfl) ?_
    refine nx_next ?_
    refine at_seq ?_
    refine at_region ?_
    refine op_v (p_move (fun _=>rfl)) ?_
    refine op_v (p_move (fun _=>rfl)) ?_
    (refine op_v (p_slice_slice_from1 Tryz.underlying43 Tryz.sizeOf9 (fun _=>rfl) (fun _=>rfl) ?_ ?_) ?_; (focus (omega)); (focus (omega)))
    refine op_v (p_move (fun _=>rfl)) ?_
    refine op_e (w_copy (cs := [strV x]) (c' := over cur2 0 [strV x]) Tryz.underlying43 Tryz.sizeOf9 (fun _=>rfl) (fun _=>rfl) (by repeat (first | exact Has.here _ | apply Has.there)) (by repeat (first | exact Upd.here _ | apply Upd.there)) (by rfl) (by show 1 = min 1 _; rw [Nat.min_eq_left (by omega)]) rfl (by show 0 + 0 + 1 ≤ _; omega) hfr2 (by simp [Value.oneCell', strV])) (fun _=>rfl) rfl rfl ?_
    rintro _ _ ⟨rfl, rfl⟩
    refine ops_nil ?_
    refine nx_next ?_
    refine at_seq ?_
    refine at_draw (n := 9) (0 :: 0 :: 0 :: 6 :: 15 :: 0 :: 0 :: 96 :: 255 :: []) 256 (by kernel_rfl) (by kernel_rfl) rfl ?_
    refine lin_v (D' := 1) 0 (p_move (fun _=>rfl)) ?_
    refine lin_v (D' := 3) 1 (p_move (fun _=>rfl)) ?_
    refine lin_v (D' := 7) 2 (p_move (fun _=>rfl)) ?_
    first | (refine lin_v (D' := 15) 3 (p_add_nat (fun _=>rfl) (fun _=>rfl) ?_) ?_; (focus (omega))) | (refine lin_v (D' := 15) 3 (p_add (fun _=>rfl) (fun _=>rfl) (IntWalk.i64_in _ ?_)) ?_; (focus (omega)))
    (refine lin_v (D' := 31) 4 (p_slice_slice_from1 Tryz.underlying43 Tryz.sizeOf9 (fun _=>rfl) (fun _=>rfl) ?_ ?_) ?_; (focus (omega)); (focus (omega)))
    refine lin_v (D' := 63) 5 (p_move (fun _=>rfl)) ?_
    refine lin_v (D' := 127) 6 (p_move (fun _=>rfl)) ?_
    (refine lin_v (D' := 255) 7 (p_slice_slice_from1 Tryz.underlying43 Tryz.sizeOf9 (fun _=>rfl) (fun _=>rfl) ?_ ?_) ?_; (focus (omega)); (focus (omega)))
    refine lin_eff (l := [8]) (by kernel_rfl) (by kernel_rfl) ?_
    refine each_cons (m := 255) (D' := 511) (is := []) (bs := []) (T' := []) rfl (fun _=>rfl) rfl rfl rfl (by kernel_rfl) rfl (w_copy (cs := xs.map strV) (c' := over (over cur2 0 [strV x]) 1 (xs.map strV)) Tryz.underlying43 Tryz.sizeOf9 (fun _=>rfl) (fun _=>rfl) (by repeat (first | exact Has.here _ | apply Has.there)) (by repeat (first | exact Upd.here _ | apply Upd.there)) (by unfold CellsIn; simp; exact List.take_of_length_le (by simp)) (by rw [List.length_map, hn, Nat.min_eq_left (by omega)]; omega) rfl (by rw [List.length_map, over_size _ _ _ (by simp; omega)]; omega) (by rw [over_size _ _ _ (by simp; omega)]; exact hfr2) (by simp [Value.oneCell', strV])) ?hk_2 (fun _ _ h => h.elim) ?hl_2
    case hk_2 =>
     rintro _ _ ⟨rfl, rfl⟩
     refine ⟨keep_nil, ?_⟩
     refine lin_nil ?_
     refine nx_slots (env' := [(9, _)]) [9] rfl (fun _=>rfl) ?_
     refine nx_next ?_
     refine at_seq ?_
     refine at_region ?_
     refine op_v (p_move (fun _=>rfl)) ?_
     refine op_v (p_assign (fun _=>rfl)) ?_
     refine ops_nil ?_
     refine nx_next ?_
     refine at_ret ?_
     refine nx_thru (by intro h; cases h) ?_
     refine nx_end1 (H' := _) rfl Tryz.results86 (fun _=>rfl) (by exact ⟨_, .inr ⟨g2, cap2, _, z2, by simp only [List.length_map, List.length_cons]; congr 1; omega, rfl, by simp only [List.length_map, List.length_cons]; omega, hcm2, by rw [(over_two cur2 (strV x) (xs.map strV) (by rw [List.length_map]; omega)).2]; exact hcs2, by have := (over_two cur2 (strV x) (xs.map strV) (by rw [List.length_map]; omega)).1; simp only [List.map_cons, List.length_cons]; exact this, by rw [(over_two cur2 (strV x) (xs.map strV) (by rw [List.length_map]; omega)).2]; exact hfr2⟩, rfl⟩)
    case hl_2 =>
     exact each_nil
   ·
    exfalso; omega

end Go.Proofs.YthbadolcncojbaaGreatDoor
