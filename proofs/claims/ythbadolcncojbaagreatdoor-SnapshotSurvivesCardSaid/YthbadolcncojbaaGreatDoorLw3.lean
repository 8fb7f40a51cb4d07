/- Contracts: the functions of the law of chapter 23. Contracts: same, few. Contracts: the reference of layer 1: zigzag, PutInt, PutString at numbers that are not negative. -/
import Derived.Test.YthbadolcncojbaaGreatDoorAp4
import Derived.Test.YthbadolcncojbaaGreatDoorOp3

namespace Go.Proofs.YthbadolcncojbaaGreatDoor
open Go Go.RowKit Gw
set_option linter.unusedVariables false
set_option maxRecDepth 100000
attribute [local irreducible] Gw.At Gw.Nx Gw.Ops
def pickN (c : Int) (n : Nat) : Nat := ((if c < 0 then -(c + 1) else c).tmod n).toNat
def sizeN (c : Int) : Nat := 40 + pickN c 1200
theorem pickN_lt (c : Int) (n : Nat) (hn : 0 < n) : pickN c n < n := by
  unfold pickN
  have h1 : 0 ≤ (if c < 0 then -(c + 1) else c) := by split <;> omega
  have h2 := Int.tmod_lt_of_pos (if c < 0 then -(c + 1) else c) (b := (n : Int)) (by omega)
  have h3 := Int.tmod_nonneg (n : Int) h1
  omega
theorem pickN_eq (c : Int) (n : Nat) : (if c < 0 then -(c + 1) else c).tmod n = (pickN c n : Int) := by
  unfold pickN
  have h1 : 0 ≤ (if c < 0 then -(c + 1) else c) := by split <;> omega
  have h3 := Int.tmod_nonneg (n : Int) h1
  omega

theorem pick_spec (c : Int) (n : Nat) (hn : 0 < n) (hn2 : n ≤ 1000000) (h1 : -9223372036854775808 ≤ c) (h2 : c ≤ 9223372036854775807) : DoesR Tryz.prog 33 #[.int .i64 c, .int .i64 (n : Int)] [] (.int .i64 (pickN c n : Int)) := by
 refine spec_enter Tryz.func33 rfl Tryz.ntmps33 rfl ?_
 intro u R
 refine at_slots (env' := [(0, _), (1, _)]) [0, 1] rfl (fun _=>rfl) ?_
 refine at_seq ?_
 refine at_region ?_
 refine op_v (p_assign (fun _=>rfl)) ?_
 refine ops_nil ?_
 refine nx_next ?_
 refine at_seq ?_
 refine at_seq ?_
 refine at_region ?_
 refine op_v (p_move (fun _=>rfl)) ?_
 first | refine op_v (p_lss_nat (n := 0) (fun _=>rfl) (fun _=>rfl)) ?_ | refine op_v (p_lss (fun _=>rfl) (fun _=>rfl)) ?_
 refine ops_nil ?_
 refine nx_next ?_
 first | refine at_if (fun _=>rfl) (fun hc1 => ?_) (fun hc1 => ?_) | refine at_if_bool (fun _=>rfl) (fun hc1 => ?_) (fun hc1 => ?_)
 ·
  refine at_region ?_
  refine op_v (p_move (fun _=>rfl)) ?_
  first | (refine op_v (p_add_nat (n := 1) (fun _=>rfl) (fun _=>rfl) ?_) ?_; (focus (omega))) | (refine op_v (p_add (fun _=>rfl) (fun _=>rfl) (IntWalk.i64_in _ ?_)) ?_; (focus (omega)))
  (refine op_v (p_neg (fun _=>rfl) (IntWalk.i64_in _ ?_)) ?_; (focus (omega)))
  refine op_v (p_assign (fun _=>rfl)) ?_
  refine ops_nil ?_
  refine nx_next ?_
  refine at_seq ?_
  refine at_region ?_
  refine op_v (p_move (fun _=>rfl)) ?_
  refine op_v (p_move (fun _=>rfl)) ?_
  first | (refine op_v (p_rem_nat (fun _=>rfl) (fun _=>rfl) ?_) ?_; (focus (omega))) | (refine op_v (p_rem (fun _=>rfl) (fun _=>rfl) ?_ rfl) ?_; (focus (omega)))
  refine op_v (p_assign (fun _=>rfl)) ?_
  refine ops_nil ?_
  refine nx_next ?_
  refine at_ret ?_
  refine nx_end1 (H' := _) rfl Tryz.results33 (fun _=>rfl) (by exact ⟨by rw [← pickN_eq]; simp [*], rfl⟩)
 ·
  refine at_skip ?_
  refine nx_next ?_
  refine at_seq ?_
  refine at_region ?_
  refine op_v (p_move (fun _=>rfl)) ?_
  refine op_v (p_move (fun _=>rfl)) ?_
  first | (refine op_v (p_rem_nat (fun _=>rfl) (fun _=>rfl) ?_) ?_; (focus (omega))) | (refine op_v (p_rem (fun _=>rfl) (fun _=>rfl) ?_ rfl) ?_; (focus (omega)))
  refine op_v (p_assign (fun _=>rfl)) ?_
  refine ops_nil ?_
  refine nx_next ?_
  refine at_ret ?_
  refine nx_end1 (H' := _) rfl Tryz.results33 (fun _=>rfl) (by exact ⟨by rw [← pickN_eq]; simp [*], rfl⟩)

theorem size_law (c : Int) (h1 : -9223372036854775808 ≤ c) (h2 : c ≤ 9223372036854775807) : DoesR Tryz.prog 30 #[.int .i64 c] [] (.int .i64 (sizeN c : Int)) := by
 have hp := pickN_lt c 1200 (by decide)
 refine spec_enter Tryz.func30 rfl Tryz.ntmps30 rfl ?_
 intro u R
 refine at_slots (env' := [(0, _)]) [0] rfl (fun _=>rfl) ?_
 refine at_seq ?_
 refine at_region ?_
 refine op_v (p_assign (fun _=>rfl)) ?_
 refine ops_nil ?_
 refine nx_next ?_
 refine at_seq ?_
 refine at_region ?_
 refine op_v (p_move (fun _=>rfl)) ?_
 refine op_e (w_callR (vs := [_, _]) (fun _=>rfl) Tryz.call33 (fun _=>rfl) rfl (pick_spec c 1200 (by decide) (by decide) h1 h2) (by repeat (first | exact Pull.nil _ | (apply Pull.cons; (focus (repeat (first | exact One.here _ _ | apply One.there))))))) (fun _=>rfl) rfl rfl ?_
 rintro _ _ ⟨rfl, rfl⟩
 first | (refine op_v (p_add_nat (m := 40) (fun _=>rfl) (fun _=>rfl) ?_) ?_; (focus (omega))) | (refine op_v (p_add (fun _=>rfl) (fun _=>rfl) (IntWalk.i64_in _ ?_)) ?_; (focus (omega)))
 refine op_v (p_assign (fun _=>rfl)) ?_
 refine ops_nil ?_
 refine nx_next ?_
 refine at_ret ?_
 refine nx_end1 (H' := _) rfl Tryz.results30 (fun _=>rfl) (by exact ⟨rfl, rfl⟩)

def fewL (ls : List (List UInt8)) : List (List UInt8) := (ls.take 6).map (·.take 100)
theorem p_slice_min {P : Program} {env : Env} {d : Option Nat} {ty : TypeId} {pos : String} {af : Array Edge} {g : Option (Nat × Bool)} {t : TypeId} {x hi : Operand} {l : List UInt8} {lk : IntKind} (hu : P.underlying t = some .string) (hx : ∀ a, ev a env x = .string (str l)) (hh : ∀ a, ev a env hi = .int lk ((min (str l).size 100 : Nat) : Int)) : OpP P ⟨d, .slice t x none (some hi) none, ty, pos, af, g⟩ env [] (.string (str (l.take 100))) := by
  have := p_slice_str_to (P := P) (d := d) (ty := ty) (pos := pos) (af := af) (g := g) hu hx hh (Nat.min_le_left _ _)
  have e : (str l).extract 0 (min (str l).size 100) = str (l.take 100) := by
    have h2 := extract_str l 0 (min l.length 100)
    rw [Nat.zero_add, List.drop_zero] at h2
    rw [str_size, h2]
    congr 1
    rcases Nat.le_total l.length 100 with h | h
    · rw [Nat.min_eq_left h, List.take_of_length_le (Nat.le_refl _), List.take_of_length_le h]
    · rw [Nat.min_eq_right h]
  rw [e] at this; exact this
theorem p_slice_take {P : Program} {env : Env} {d : Option Nat} {ty : TypeId} {pos : String} {af : Array Edge} {g : Option (Nat × Bool)} {t : TypeId} {x hi : Operand} {l : List UInt8} {k : Nat} {lk : IntKind} (hu : P.underlying t = some .string) (hx : ∀ a, ev a env x = .string (str l)) (hh : ∀ a, ev a env hi = .int lk (k : Int)) (h1 : k ≤ l.length) : OpP P ⟨d, .slice t x none (some hi) none, ty, pos, af, g⟩ env [] (.string (str (l.take k))) := by
  have := p_slice_str_to (P := P) (d := d) (ty := ty) (pos := pos) (af := af) (g := g) hu hx hh (by rw [str_size]; exact h1)
  have e : (str l).extract 0 k = str (l.take k) := by
    have h2 := extract_str l 0 k
    rw [Nat.zero_add, List.drop_zero] at h2
    exact h2
  rw [e] at this; exact this
theorem take_map_snoc (ls : List (List UInt8)) (i : Nat) (x : List UInt8) (h : ls[i]? = some x) : ((ls.take (i + 1)).map (·.take 100)).map strV = ((ls.take i).map (·.take 100)).map strV ++ [.string (str (x.take 100))] := by
  rw [List.take_add_one, h]; simp [strV]
theorem cellAt {cur : Array Value} {o i : Nat} {ls : List (List UInt8)} {x : List UInt8} (hin : CellsIn cur o (ls.map strV)) (h : ls[i]? = some x) : cur[o + i]? = some (.string (str x)) := hin.get i (strV x) (by rw [List.getElem?_map, h]; rfl)
theorem str_inj {a b : List UInt8} (h : str a = str b) : a = b := by
  have := congrArg (fun t : ByteArray => t.data.toList) h
  simpa [str] using this
theorem take_agree {xa bs : List (List UInt8)} {i : Nat} {x : List UInt8} (h : xa.take i = bs.take i) (h1 : xa[i]? = some x) (h2 : bs[i]? = some x) : xa.take (i + 1) = bs.take (i + 1) := by
  rw [List.take_add_one, List.take_add_one, h, h1, h2]

theorem few_some (g o cap : Nat) (cur : Array Value) (T : TypeId) (z : Nat × Nat) (ls : List (List UInt8)) (hin : CellsIn cur o (ls.map strV)) (hls : ls.length ≤ 9223372036854775807) :
    Does Tryz.prog 37 #[.slice (some ⟨g, o, none⟩) ls.length cap] [[(g, .cells cur T z)]] (fun r H' => ∃ sv, Row 9 r ((fewL ls).map strV) sv ∧ H' = [[(g, .cells cur T z)], sv]) := by
 have hml : maxLen = 9223372036854775807 := rfl
 refine spec_enter Tryz.func37 rfl Tryz.ntmps37 rfl ?_
 intro u R
 refine at_slots (env' := [(0, _)]) [0] rfl (fun _=>rfl) ?_
 refine at_seq ?_
 refine at_region ?_
 refine op_v (p_assign (fun _=>rfl)) ?_
 refine ops_nil ?_
 refine nx_next ?_
 refine at_seq ?_
 refine at_region ?_
 refine op_v (p_assign (fun _=>rfl)) ?_
 refine ops_nil ?_
 refine nx_next ?_
 refine at_seq ?_
 refine at_seq ?_
 refine at_region ?_
 refine op_v (p_assign (fun _=>rfl)) ?_
 refine ops_nil ?_
 refine nx_next ?_
 refine at_block ?_
 refine at_nil ?_
 refine at_slots (env' := [(3, _), (4, _), (0, _)]) [3, 4, 0] rfl (fun _=>rfl) ?_
 refine at_loopB (e0 := [(3, _), (4, _)]) (H0 := _) (n := _) (fun m e H => ∃ (i : Nat) (v : Value) (sv : List Chunk), m = 6 - i ∧ (i ≤ ls.length ∧ i ≤ 6 ∧ Row 9 v (((ls.take i).map (·.take 100)).map strV) sv) ∧ e = [(3, v), (4, .int .i64 (i : Int))] ∧ H = [sv]) (by exact ⟨0, _, [], rfl, ⟨Nat.zero_le _, Nat.zero_le _, row_nil _⟩, rfl, rfl⟩) (by repeat (first | exact Pull.nil _ | (apply Pull.cons; (focus (repeat (first | exact One.here _ _ | apply One.there)))))) ?_
 rintro _ _ _ ⟨i, v, sv, rfl, ⟨hi, hi6, hrv⟩, rfl, rfl⟩
 obtain ⟨gv, cv, rfl⟩ := hrv.form
 have htl : (ls.take i).length ≤ i := List.length_take_le ..
 refine at_seq ?_
 refine at_seq ?_
 refine at_region ?_
 refine op_v (p_move (fun _=>rfl)) ?_
 refine op_v (p_move (fun _=>rfl)) ?_
 refine op_v (p_len_slice Tryz.underlying43 (fun _=>rfl)) ?_
 first | refine op_v (p_lss_nat (fun _=>rfl) (fun _=>rfl)) ?_ | refine op_v (p_lss (fun _=>rfl) (fun _=>rfl)) ?_
 refine op_v (p_move (fun _=>rfl)) ?_
 first | refine ops_split (t := 9) (fun _=>rfl) rfl (fun hlt => ?_) (fun hlt => ?_) | refine ops_split_bool (t := 9) (fun _=>rfl) rfl (fun hlt => ?_) (fun hlt => ?_)
 ·
  refine op_wg (fun _=>rfl) (p_move (fun _=>rfl)) rfl rfl ?_
  first | refine op_wg (fun _=>rfl) (p_lss_nat (n := 6) (fun _=>rfl) (fun _=>rfl)) rfl rfl ?_ | refine op_wg (fun _=>rfl) (p_lss (fun _=>rfl) (fun _=>rfl)) rfl rfl ?_
  refine op_v (p_pick_t (fun _=>rfl) (fun _=>rfl)) ?_
  refine ops_nil ?_
  refine nx_next ?_
  first | refine at_if (fun _=>rfl) (fun hl6 => ?_) (fun hl6 => ?_) | refine at_if_bool (fun _=>rfl) (fun hl6 => ?_) (fun hl6 => ?_)
  ·
   refine at_skip ?_
   refine nx_next ?_
   refine at_seq ?_
   refine at_block ?_
   obtain ⟨x, hx⟩ : ∃ x, ls[i]? = some x := ⟨_, List.getElem?_eq_getElem hlt⟩
   have hcell := cellAt hin hx
   refine at_draw (n := 15) (0 :: 0 :: 0 :: 6 :: 14 :: 0 :: 0 :: 96 :: 224 :: 480 :: 992 :: 2046 :: 4094 :: 8191 :: 16383 :: []) 12288 (by kernel_rfl) (by kernel_rfl) rfl ?_
   refine lin_v (D' := 1) 0 (p_move (fun _=>rfl)) ?_
   refine lin_v (D' := 3) 1 (p_move (fun _=>rfl)) ?_
   refine lin_v (D' := 7) 2 (p_move (fun _=>rfl)) ?_
   first | (refine lin_v (D' := 15) 3 (p_indexAddr_nat0 Tryz.underlying43 Tryz.sizeOf9 (fun _=>rfl) (fun _=>rfl) ?_) ?_; (focus (omega))) | (refine lin_v (D' := 15) 3 (p_indexAddr_nat1 Tryz.underlying43 Tryz.sizeOf9 (fun _=>rfl) (fun _=>rfl) ?_) ?_; (focus (omega)))
   refine lin_r (D' := 31) 4 rfl rfl rfl (by repeat (first | exact Has.here _ | apply Has.there)) (p_load Tryz.isAgg9 (fun _=>rfl) (by first | exact hcell | (rw [Nat.mul_one]; exact hcell))) ?_
   refine lin_v (D' := 63) 5 (p_move (fun _=>rfl)) ?_
   refine lin_v (D' := 127) 6 (p_move (fun _=>rfl)) ?_
   first | (refine lin_v (D' := 255) 7 (p_indexAddr_nat0 Tryz.underlying43 Tryz.sizeOf9 (fun _=>rfl) (fun _=>rfl) ?_) ?_; (focus (omega))) | (refine lin_v (D' := 255) 7 (p_indexAddr_nat1 Tryz.underlying43 Tryz.sizeOf9 (fun _=>rfl) (fun _=>rfl) ?_) ?_; (focus (omega)))
   refine lin_r (D' := 511) 8 rfl rfl rfl (by repeat (first | exact Has.here _ | apply Has.there)) (p_load Tryz.isAgg9 (fun _=>rfl) (by first | exact hcell | (rw [Nat.mul_one]; exact hcell))) ?_
   refine lin_v (D' := 1023) 9 (p_len_str Tryz.underlying9 (fun _=>rfl)) ?_
   first | refine lin_v (D' := 2047) 10 (p_min_nat (n := 100) (fun _=>rfl) (fun _=>rfl)) ?_ | refine lin_v (D' := 2047) 10 (p_min_int (fun _=>rfl) (fun _=>rfl)) ?_
   refine lin_w (D' := 4095) 11 rfl rfl rfl (p_slice_min Tryz.underlying9 (fun _=>rfl) (fun _=>rfl)) ?_
   refine lin_eff (l := [12]) (by kernel_rfl) (by kernel_rfl) ?_
   refine each_cons (m := 4094) (D' := 8191) (is := [8, 4]) (bs := [false, false]) (T' := []) rfl (fun _=>rfl) rfl rfl rfl (by kernel_rfl) rfl (w_buildSlice (vs := [_]) (cs := [_]) Tryz.underlying43 Tryz.sizeOf9 Tryz.zeroValue9 (fun _=>rfl) rfl rfl rfl rfl rfl) ?hk_2 (fun _ _ h => h.elim) ?hl_2
   case hk_2 =>
    rintro _ _ ⟨b1, rfl, rfl⟩
    refine ⟨keep_nil, ?_⟩
    refine lin_eff (l := [13]) (by kernel_rfl) (by kernel_rfl) ?_
    refine each_cons (m := 8191) (D' := 16383) (is := []) (bs := []) (T' := []) rfl (fun _=>rfl) rfl rfl rfl (by kernel_rfl) rfl (w_append (by_ := 16) (news := [_]) Tryz.underlying43 (rfl : Tryz.prog.info? 9 = some Tryz.t9) rfl rfl rfl rfl (fun _=>rfl) hrv (fun _=>rfl) (by repeat (first | exact One.here _ _ | apply One.there)) (by repeat (first | exact Has.here _ | apply Has.there)) (by rfl) rfl (by simp [Value.oneCell']) (by decide) (by (simp only [List.length_map]; omega)) (by (simp only [List.length_map]; omega))) ?hk_3 (fun _ _ h => h.elim) ?hl_3
    case hk_3 =>
     rintro _ _ ⟨sq, hrq, rfl⟩
     refine ⟨keep_nil, ?_⟩
     obtain ⟨gq, cq, rfl⟩ := hrq.form
     refine lin_v (D' := 32767) 14 (p_assign (fun _=>rfl)) ?_
     refine lin_nil ?_
     refine nx_slots (env' := [(0, _), (3, _), (4, _)]) [0, 3, 4] rfl (fun _=>rfl) ?_
     refine nx_block_normal ?_
     refine nx_next ?_
     refine at_region ?_
     refine op_v (p_move (fun _=>rfl)) ?_
     first | (refine op_v (p_add_nat (n := 1) (fun _=>rfl) (fun _=>rfl) ?_) ?_; (focus (omega))) | (refine op_v (p_add (fun _=>rfl) (fun _=>rfl) (IntWalk.i64_in _ ?_)) ?_; (focus (omega)))
     refine op_v (p_assign (fun _=>rfl)) ?_
     refine ops_nil ?_
     refine nx_slots (env' := [(3, _), (4, _), (0, _)]) [3, 4, 0] rfl (fun _=>rfl) ?_
     refine nx_againB (e' := [(3, _), (4, _)]) (m := _) (H' := _) (by exact ⟨i + 1, _, _, rfl, ⟨by omega, by omega, by rw [take_map_snoc ls i x hx]; exact hrq⟩, rfl, rfl⟩)
    case hl_3 =>
     exact each_nil
   case hl_2 =>
    exact each_nil
  ·
   have hend : fewL ls = (ls.take i).map (·.take 100) := by
     have : i = 6 := by omega
     subst this; rfl
   refine at_exit ?_
   refine nx_thru (by intro h; cases h) ?_
   refine nx_thru (by intro h; cases h) ?_
   refine nx_block_exit ?_
   refine nx_next ?_
   refine at_seq ?_
   refine at_region ?_
   refine op_v (p_move (fun _=>rfl)) ?_
   refine op_v (p_assign (fun _=>rfl)) ?_
   refine ops_nil ?_
   refine nx_next ?_
   refine at_ret ?_
   refine nx_end1 (H' := _) rfl Tryz.results37 (fun _=>rfl) (by exact ⟨_, by rw [hend]; exact hrv, rfl⟩)
 ·
  have hend : fewL ls = (ls.take i).map (·.take 100) := by
    unfold fewL
    rw [List.take_of_length_le (by omega), List.take_of_length_le (by omega)]
  refine op_skip (fun _=>rfl) rfl ?_
  refine op_skip (fun _=>rfl) rfl ?_
  refine op_v (p_pick_f (fun _=>rfl) (fun _=>rfl)) ?_
  refine ops_nil ?_
  refine nx_next ?_
  refine at_else (fun _=>rfl) ?_
  refine at_exit ?_
  refine nx_thru (by intro h; cases h) ?_
  refine nx_thru (by intro h; cases h) ?_
  refine nx_block_exit ?_
  refine nx_next ?_
  refine at_seq ?_
  refine at_region ?_
  refine op_v (p_move (fun _=>rfl)) ?_
  refine op_v (p_assign (fun _=>rfl)) ?_
  refine ops_nil ?_
  refine nx_next ?_
  refine at_ret ?_
  refine nx_end1 (H' := _) rfl Tryz.results37 (fun _=>rfl) (by exact ⟨_, by rw [hend]; exact hrv, rfl⟩)

theorem few_zero (p : Option Addr) (cap : Nat) : DoesR Tryz.prog 37 #[.slice p 0 cap] [] (.slice none 0 0) := by
 refine spec_enter Tryz.func37 rfl Tryz.ntmps37 rfl ?_
 intro u R
 refine at_slots (env' := [(0, _)]) [0] rfl (fun _=>rfl) ?_
 refine at_seq ?_
 refine at_region ?_
 refine op_v (p_assign (fun _=>rfl)) ?_
 refine ops_nil ?_
 refine nx_next ?_
 refine at_seq ?_
 refine at_region ?_
 refine op_v (p_assign (fun _=>rfl)) ?_
 refine ops_nil ?_
 refine nx_next ?_
 refine at_seq ?_
 refine at_seq ?_
 refine at_region ?_
 refine op_v (p_assign (fun _=>rfl)) ?_
 refine ops_nil ?_
 refine nx_next ?_
 refine at_block ?_
 refine at_slots (env' := [(3, _), (4, _), (0, _)]) [3, 4, 0] rfl (fun _=>rfl) ?_
 refine at_loopB (e0 := [(3, _), (4, _)]) (H0 := _) (n := _) (fun m e H => ∃ (i : Nat), m = 0 + i ∧ (True) ∧ e = [(3, .slice none 0 0), (4, .int .i64 (i : Int))] ∧ H = []) (by exact ⟨0, rfl, trivial, rfl, rfl⟩) (by repeat (first | exact Pull.nil _ | (apply Pull.cons; (focus (repeat (first | exact One.here _ _ | apply One.there)))))) ?_
 rintro _ _ _ ⟨i, rfl, _, rfl, rfl⟩
 refine at_seq ?_
 refine at_seq ?_
 refine at_region ?_
 refine op_v (p_move (fun _=>rfl)) ?_
 refine op_v (p_move (fun _=>rfl)) ?_
 refine op_v (p_len_slice Tryz.underlying43 (fun _=>rfl)) ?_
 first | refine op_v (p_lss_nat (fun _=>rfl) (fun _=>rfl)) ?_ | refine op_v (p_lss (fun _=>rfl) (fun _=>rfl)) ?_
 refine op_v (p_move (fun _=>rfl)) ?_
 first | refine ops_split (t := 9) (fun _=>rfl) rfl (fun hc1 => ?_) (fun hc1 => ?_) | refine ops_split_bool (t := 9) (fun _=>rfl) rfl (fun hc1 => ?_) (fun hc1 => ?_)
 ·
  exfalso; omega
 ·
  refine op_skip (fun _=>rfl) rfl ?_
  refine op_skip (fun _=>rfl) rfl ?_
  refine op_v (p_pick_f (fun _=>rfl) (fun _=>rfl)) ?_
  refine ops_nil ?_
  refine nx_next ?_
  refine at_else (fun _=>rfl) ?_
  refine at_exit ?_
  refine nx_thru (by intro h; cases h) ?_
  refine nx_thru (by intro h; cases h) ?_
  refine nx_block_exit ?_
  refine nx_next ?_
  refine at_seq ?_
  refine at_region ?_
  refine op_v (p_move (fun _=>rfl)) ?_
  refine op_v (p_assign (fun _=>rfl)) ?_
  refine ops_nil ?_
  refine nx_next ?_
  refine at_ret ?_
  refine nx_end1 (H' := _) rfl Tryz.results37 (fun _=>rfl) (by exact ⟨rfl, rfl⟩)

theorem same_some (g o cap g' o' cap' : Nat) (cur cur' : Array Value) (T T' : TypeId) (z z' : Nat × Nat) (xa bs : List (List UInt8)) (hin : CellsIn cur o (xa.map strV)) (hin' : CellsIn cur' o' (bs.map strV)) (hls : xa.length ≤ 1099511627776) :
    DoesR Tryz.prog 25 #[.slice (some ⟨g, o, none⟩) xa.length cap, .slice (some ⟨g', o', none⟩) bs.length cap'] [[(g, .cells cur T z)], [(g', .cells cur' T' z')]] (.bool (decide (xa = bs))) := by
 refine spec_enter Tryz.func25 rfl Tryz.ntmps25 rfl ?_
 intro u R
 refine at_slots (env' := [(0, _), (1, _)]) [0, 1] rfl (fun _=>rfl) ?_
 refine at_seq ?_
 refine at_region ?_
 refine op_v (p_assign (fun _=>rfl)) ?_
 refine ops_nil ?_
 refine nx_next ?_
 refine at_seq ?_
 refine at_seq ?_
 refine at_region ?_
 refine op_v (p_move (fun _=>rfl)) ?_
 refine op_v (p_len_slice Tryz.underlying43 (fun _=>rfl)) ?_
 refine op_v (p_move (fun _=>rfl)) ?_
 refine op_v (p_len_slice Tryz.underlying43 (fun _=>rfl)) ?_
 first | refine op_v (p_neq_nat (fun _=>rfl) (fun _=>rfl)) ?_ | refine op_v (p_neq (fun _=>rfl) (fun _=>rfl)) ?_
 refine ops_nil ?_
 refine nx_next ?_
 first | refine at_if (fun _=>rfl) (fun hne => ?_) (fun hne => ?_) | refine at_if_bool (fun _=>rfl) (fun hne => ?_) (fun hne => ?_)
 ·
  have hd : decide (xa = bs) = false := decide_eq_false (fun e => hne (by rw [e]))
  refine at_seq ?_
  refine at_region ?_
  refine op_v (p_assign (fun _=>rfl)) ?_
  refine ops_nil ?_
  refine nx_next ?_
  refine at_ret ?_
  refine nx_thru (by intro h; cases h) ?_
  refine nx_end1 (H' := _) rfl Tryz.results25 (fun _=>rfl) (by exact ⟨by rw [hd], rfl⟩)
 ·
  refine at_skip ?_
  refine nx_next ?_
  refine at_seq ?_
  refine at_seq ?_
  refine at_region ?_
  refine op_v (p_assign (fun _=>rfl)) ?_
  refine ops_nil ?_
  refine nx_next ?_
  refine at_block ?_
  refine at_slots (env' := [(5, _), (0, _), (1, _)]) [5, 0, 1] rfl (fun _=>rfl) ?_
  refine at_loopB (e0 := [(5, _)]) (H0 := _) (n := _) (fun m e H => ∃ (i : Nat), m = xa.length - i ∧ (i ≤ xa.length ∧ xa.take i = bs.take i) ∧ e = [(5, .int .i64 (i : Int))] ∧ H = []) (by exact ⟨0, rfl, ⟨Nat.zero_le _, rfl⟩, rfl, rfl⟩) (by repeat (first | exact Pull.nil _ | (apply Pull.cons; (focus (repeat (first | exact One.here _ _ | apply One.there)))))) ?_
  rintro _ _ _ ⟨i, rfl, ⟨hi, hag⟩, rfl, rfl⟩
  refine at_seq ?_
  refine at_seq ?_
  refine at_region ?_
  refine op_v (p_move (fun _=>rfl)) ?_
  refine op_v (p_move (fun _=>rfl)) ?_
  refine op_v (p_len_slice Tryz.underlying43 (fun _=>rfl)) ?_
  first | refine op_v (p_lss_nat (fun _=>rfl) (fun _=>rfl)) ?_ | refine op_v (p_lss (fun _=>rfl) (fun _=>rfl)) ?_
  refine ops_nil ?_
  refine nx_next ?_
  first | refine at_if (fun _=>rfl) (fun hlt => ?_) (fun hlt => ?_) | refine at_if_bool (fun _=>rfl) (fun hlt => ?_) (fun hlt => ?_)
  ·
   refine at_skip ?_
   refine nx_next ?_
   refine at_seq ?_
   refine at_block ?_
   refine at_seq ?_
   obtain ⟨x, hx⟩ : ∃ x, xa[i]? = some x := ⟨_, List.getElem?_eq_getElem hlt⟩
   obtain ⟨y, hy⟩ : ∃ y, bs[i]? = some y := ⟨_, List.getElem?_eq_getElem (by omega)⟩
   have hcx := cellAt hin hx
   have hcy := cellAt hin' hy
   refine at_draw (n := 9) (0 :: 0 :: 3 :: 7 :: 0 :: 0 :: 48 :: 112 :: 255 :: []) 0 (by kernel_rfl) (by kernel_rfl) rfl ?_
   refine lin_v (D' := 1) 0 (p_move (fun _=>rfl)) ?_
   refine lin_v (D' := 3) 1 (p_move (fun _=>rfl)) ?_
   first | (refine lin_v (D' := 7) 2 (p_indexAddr_nat0 Tryz.underlying43 Tryz.sizeOf9 (fun _=>rfl) (fun _=>rfl) ?_) ?_; (focus (omega))) | (refine lin_v (D' := 7) 2 (p_indexAddr_nat1 Tryz.underlying43 Tryz.sizeOf9 (fun _=>rfl) (fun _=>rfl) ?_) ?_; (focus (omega)))
   refine lin_r (D' := 15) 3 rfl rfl rfl (by repeat (first | exact Has.here _ | apply Has.there)) (p_load Tryz.isAgg9 (fun _=>rfl) (by first | exact hcx | (rw [Nat.mul_one]; exact hcx))) ?_
   refine lin_v (D' := 31) 4 (p_move (fun _=>rfl)) ?_
   refine lin_v (D' := 63) 5 (p_move (fun _=>rfl)) ?_
   first | (refine lin_v (D' := 127) 6 (p_indexAddr_nat0 Tryz.underlying43 Tryz.sizeOf9 (fun _=>rfl) (fun _=>rfl) ?_) ?_; (focus (omega))) | (refine lin_v (D' := 127) 6 (p_indexAddr_nat1 Tryz.underlying43 Tryz.sizeOf9 (fun _=>rfl) (fun _=>rfl) ?_) ?_; (focus (omega)))
   refine lin_r (D' := 255) 7 rfl rfl rfl (by repeat (first | exact Has.here _ | apply Has.there)) (p_load Tryz.isAgg9 (fun _=>rfl) (by first | exact hcy | (rw [Nat.mul_one]; exact hcy))) ?_
   refine lin_v (D' := 511) 8 (p_neq_str (fun _=>rfl) (fun _=>rfl)) ?_
   refine lin_nil ?_
   refine nx_slots (env' := [(0, _), (1, _), (5, _), (25, _)]) [0, 1, 5, 25] rfl (fun _=>rfl) ?_
   refine nx_next ?_
   first | refine at_if (fun _=>rfl) (fun hxy => ?_) (fun hxy => ?_) | refine at_if_bool (fun _=>rfl) (fun hxy => ?_) (fun hxy => ?_)
   ·
    have hd : decide (xa = bs) = false := decide_eq_false (fun e => hxy (by rw [e, hy] at hx; injection hx with hx; rw [hx]))
    refine at_seq ?_
    refine at_region ?_
    refine op_v (p_assign (fun _=>rfl)) ?_
    refine ops_nil ?_
    refine nx_next ?_
    refine at_ret ?_
    refine nx_block_ret ?_
    refine nx_thru (by intro h; cases h) ?_
    refine nx_thru (by intro h; cases h) ?_
    refine nx_block_ret ?_
    refine nx_thru (by intro h; cases h) ?_
    refine nx_end1 (H' := _) rfl Tryz.results25 (fun _=>rfl) (by exact ⟨by rw [hd], rfl⟩)
   ·
    refine at_skip ?_
    refine nx_block_normal ?_
    refine nx_next ?_
    refine at_region ?_
    refine op_v (p_move (fun _=>rfl)) ?_
    first | (refine op_v (p_add_nat (n := 1) (fun _=>rfl) (fun _=>rfl) ?_) ?_; (focus (omega))) | (refine op_v (p_add (fun _=>rfl) (fun _=>rfl) (IntWalk.i64_in _ ?_)) ?_; (focus (omega)))
    refine op_v (p_assign (fun _=>rfl)) ?_
    refine ops_nil ?_
    refine nx_slots (env' := [(5, _), (0, _), (1, _)]) [5, 0, 1] rfl (fun _=>rfl) ?_
    refine nx_againB (e' := [(5, _)]) (m := _) (H' := _) (by exact ⟨i + 1, rfl, ⟨by omega, by have e := str_inj (Classical.not_not.1 hxy); subst e; exact take_agree hag hx hy⟩, rfl, rfl⟩)
  ·
   have hd : decide (xa = bs) = true := decide_eq_true (by
     have ei : i = xa.length := by omega
     subst ei
     rw [List.take_length] at hag
     rw [hag, List.take_of_length_le (by omega)])
   refine at_exit ?_
   refine nx_thru (by intro h; cases h) ?_
   refine nx_thru (by intro h; cases h) ?_
   refine nx_block_exit ?_
   refine nx_next ?_
   refine at_seq ?_
   refine at_region ?_
   refine op_v (p_assign (fun _=>rfl)) ?_
   refine ops_nil ?_
   refine nx_next ?_
   refine at_ret ?_
   refine nx_end1 (H' := _) rfl Tryz.results25 (fun _=>rfl) (by exact ⟨by rw [hd], rfl⟩)

theorem same_zero (p q : Option Addr) (m cap cap' : Nat) : DoesR Tryz.prog 25 #[.slice p 0 cap, .slice q m cap'] [] (.bool (decide (m = 0))) := by
 refine spec_enter Tryz.func25 rfl Tryz.ntmps25 rfl ?_
 intro u R
 refine at_slots (env' := [(0, _), (1, _)]) [0, 1] rfl (fun _=>rfl) ?_
 refine at_seq ?_
 refine at_region ?_
 refine op_v (p_assign (fun _=>rfl)) ?_
 refine ops_nil ?_
 refine nx_next ?_
 refine at_seq ?_
 refine at_seq ?_
 refine at_region ?_
 refine op_v (p_move (fun _=>rfl)) ?_
 refine op_v (p_len_slice Tryz.underlying43 (fun _=>rfl)) ?_
 refine op_v (p_move (fun _=>rfl)) ?_
 refine op_v (p_len_slice Tryz.underlying43 (fun _=>rfl)) ?_
 first | refine op_v (p_neq_nat (fun _=>rfl) (fun _=>rfl)) ?_ | refine op_v (p_neq (fun _=>rfl) (fun _=>rfl)) ?_
 refine ops_nil ?_
 refine nx_next ?_
 first | refine at_if (fun _=>rfl) (fun hne => ?_) (fun hne => ?_) | refine at_if_bool (fun _=>rfl) (fun hne => ?_) (fun hne => ?_)
 ·
  have hd : decide (m = 0) = false := decide_eq_false (by omega)
  refine at_seq ?_
  refine at_region ?_
  refine op_v (p_assign (fun _=>rfl)) ?_
  refine ops_nil ?_
  refine nx_next ?_
  refine at_ret ?_
  refine nx_thru (by intro h; cases h) ?_
  refine nx_end1 (H' := _) rfl Tryz.results25 (fun _=>rfl) (by exact ⟨by rw [hd], rfl⟩)
 ·
  have hd : decide (m = 0) = true := decide_eq_true (by omega)
  refine at_skip ?_
  refine nx_next ?_
  refine at_seq ?_
  refine at_seq ?_
  refine at_region ?_
  refine op_v (p_assign (fun _=>rfl)) ?_
  refine ops_nil ?_
  refine nx_next ?_
  refine at_block ?_
  refine at_slots (env' := [(5, _), (0, _), (1, _)]) [5, 0, 1] rfl (fun _=>rfl) ?_
  refine at_loopB (e0 := [(5, _)]) (H0 := _) (n := _) (fun m e H => ∃ (i : Nat), m = 0 + i ∧ (True) ∧ e = [(5, .int .i64 (i : Int))] ∧ H = []) (by exact ⟨0, rfl, trivial, rfl, rfl⟩) (by repeat (first | exact Pull.nil _ | (apply Pull.cons; (focus (repeat (first | exact One.here _ _ | apply One.there)))))) ?_
  rintro _ _ _ ⟨i, rfl, _, rfl, rfl⟩
  refine at_seq ?_
  refine at_seq ?_
  refine at_region ?_
  refine op_v (p_move (fun _=>rfl)) ?_
  refine op_v (p_move (fun _=>rfl)) ?_
  refine op_v (p_len_slice Tryz.underlying43 (fun _=>rfl)) ?_
  first | refine op_v (p_lss_nat (fun _=>rfl) (fun _=>rfl)) ?_ | refine op_v (p_lss (fun _=>rfl) (fun _=>rfl)) ?_
  refine ops_nil ?_
  refine nx_next ?_
  first | refine at_if (fun _=>rfl) (fun hc1 => ?_) (fun hc1 => ?_) | refine at_if_bool (fun _=>rfl) (fun hc1 => ?_) (fun hc1 => ?_)
  ·
   exfalso; omega
  ·
   refine at_exit ?_
   refine nx_thru (by intro h; cases h) ?_
   refine nx_thru (by intro h; cases h) ?_
   refine nx_block_exit ?_
   refine nx_next ?_
   refine at_seq ?_
   refine at_region ?_
   refine op_v (p_assign (fun _=>rfl)) ?_
   refine ops_nil ?_
   refine nx_next ?_
   refine at_ret ?_
   refine nx_end1 (H' := _) rfl Tryz.results25 (fun _=>rfl) (by exact ⟨by rw [hd], rfl⟩)

theorem zz_nat (n : Nat) : zz (n : Int) = 2 * n := by unfold zz; rw [if_neg (by omega)]; omega

end Go.Proofs.YthbadolcncojbaaGreatDoor
