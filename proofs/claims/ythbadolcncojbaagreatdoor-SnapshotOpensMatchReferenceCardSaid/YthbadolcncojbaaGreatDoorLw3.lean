/- Contracts: the functions of the law of chapter 23. Contracts: same, few. Contracts: the reference of layer 1: zigzag, PutInt, PutString at numbers that are not negative. -/
import Derived.Test.YthbadolcncojbaaGreatDoorEz
import Derived.Test.YthbadolcncojbaaGreatDoorEr1
import Derived.Test.YthbadolcncojbaaGreatDoorOp3

namespace Go.Proofs.YthbadolcncojbaaGreatDoor
open Go.Proofs.Tryz
open Go Go.RowKit Gw
set_option linter.unusedVariables false
set_option maxRecDepth 100000
attribute [local irreducible] Gw.At Gw.Nx Gw.Ops
def pickN (c : Int) (n : Nat) : Nat := ((if c < 0 then -(c + 1) else c).tmod n).toNat
theorem pickN_lt (c : Int) (n : Nat) (hn : 0 < n) : pickN c n < n := by
  unfold pickN
  have h1 : 0 ≤ (if c < 0 then -(c + 1) else c) := by split <;> omega
  have h2 := Int.tmod_lt_of_pos (if c < 0 then -(c + 1) else c) (b := (n : Int)) (by omega)
  have h3 := Int.tmod_nonneg (n : Int) h1
  omega
theorem pickN_eq (c : Int) (n : Nat) : (if c < 0 then -(c + 1) else c).tmod n = (pickN c n : Int) := by
  unfold pickN
  have h1 : 0 ≤ (if c < 0 then -(c + 1) else c) := by split <;> omega
  have h3 := Int.tmod_nonneg (n : Int) h1
  omega

theorem pick_spec (c : Int) (n : Nat) (hn : 0 < n) (hn2 : n ≤ 1000000) (h1 : -9223372036854775808 ≤ c) (h2 : c ≤ 9223372036854775807) : DoesR Tryz.prog 33 #[.int .i64 c, .int .i64 (n : Int)] [] (.int .i64 (pickN c n : Int)) := by
 refine spec_enter func33 rfl ntmps33 rfl ?_
 intro u R
 refine Zb [0, 1] ?_
 refine Zq <| Zg <| Za Y <| Z0 <| Zx <| Zq <| Zq <| Zg <| Zm Y ?_
 first | refine op_v (p_lss_nat (n := 0) Y Y) ?_ | refine op_v (p_lss Y Y) ?_
 refine Z0 <| Zx ?_
 first | refine at_if Y (fun hc1 => ?_) (fun hc1 => ?_) | refine at_if_bool Y (fun hc1 => ?_) (fun hc1 => ?_)
 ·
  refine Zg <| Zm Y ?_
  first | (refine op_v (p_add_nat (n := 1) Y Y ?_) ?_; (focus (omega))) | (refine op_v (p_add Y Y (IntWalk.i64_in _ ?_)) ?_; (focus (omega)))
  (refine op_v (p_neg Y (IntWalk.i64_in _ ?_)) ?_; (focus (omega)))
  refine Za Y <| Z0 <| Zx <| Zq <| Zg <| Zm Y <| Zm Y ?_
  first | (refine op_v (p_rem_nat Y Y ?_) ?_; (focus (omega))) | (refine op_v (p_rem Y Y ?_ rfl) ?_; (focus (omega)))
  refine Za Y <| Z0 <| Zx <| at_ret ?_
  refine nx_end1 rfl results33 Y (by exact ⟨by rw [← pickN_eq]; simp [*], rfl⟩)
 ·
  refine at_skip <| Zx <| Zq <| Zg <| Zm Y <| Zm Y ?_
  first | (refine op_v (p_rem_nat Y Y ?_) ?_; (focus (omega))) | (refine op_v (p_rem Y Y ?_ rfl) ?_; (focus (omega)))
  refine Za Y <| Z0 <| Zx <| at_ret ?_
  refine nx_end1 rfl results33 Y (by exact ⟨by rw [← pickN_eq]; simp [*], rfl⟩)

def fewL (ls : List (List UInt8)) : List (List UInt8) := (ls.take 6).map (·.take 100)
theorem p_slice_min {P : Program} {env : Env} {d : Option Nat} {ty : TypeId} {pos : String} {af : Array Edge} {g : Option (Nat × Bool)} {t : TypeId} {x hi : Operand} {l : List UInt8} {lk : IntKind} (hu : P.underlying t = some .string) (hx : ∀ a, ev a env x = .string (str l)) (hh : ∀ a, ev a env hi = .int lk ((min (str l).size 100 : Nat) : Int)) : OpP P ⟨d, .slice t x none (some hi) none, ty, pos, af, g⟩ env [] (.string (str (l.take 100))) := by
  have := p_slice_str_to (P := P) (d := d) (ty := ty) (pos := pos) (af := af) (g := g) hu hx hh (Nat.min_le_left _ _)
  have e : (str l).extract 0 (min (str l).size 100) = str (l.take 100) := by
    have h2 := extract_str l 0 (min l.length 100)
    rw [Nat.zero_add, List.drop_zero] at h2
    rw [str_size, h2]
    congr 1
    rcases Nat.le_total l.length 100 with h | h
    · rw [Nat.min_eq_left h, List.take_of_length_le (Nat.le_refl _), List.take_of_length_le h]
    · rw [Nat.min_eq_right h]
  rw [e] at this; exact this
theorem p_slice_take {P : Program} {env : Env} {d : Option Nat} {ty : TypeId} {pos : String} {af : Array Edge} {g : Option (Nat × Bool)} {t : TypeId} {x hi : Operand} {l : List UInt8} {k : Nat} {lk : IntKind} (hu : P.underlying t = some .string) (hx : ∀ a, ev a env x = .string (str l)) (hh : ∀ a, ev a env hi = .int lk (k : Int)) (h1 : k ≤ l.length) : OpP P ⟨d, .slice t x none (some hi) none, ty, pos, af, g⟩ env [] (.string (str (l.take k))) := by
  have := p_slice_str_to (P := P) (d := d) (ty := ty) (pos := pos) (af := af) (g := g) hu hx hh (by rw [str_size]; exact h1)
  have e : (str l).extract 0 k = str (l.take k) := by
    have h2 := extract_str l 0 k
    rw [Nat.zero_add, List.drop_zero] at h2
    exact h2
  rw [e] at this; exact this
theorem take_map_snoc (ls : List (List UInt8)) (i : Nat) (x : List UInt8) (h : ls[i]? = some x) : ((ls.take (i + 1)).map (·.take 100)).map strV = ((ls.take i).map (·.take 100)).map strV ++ [.string (str (x.take 100))] := by
  rw [List.take_add_one, h]; simp [strV]
theorem cellAt {cur : Array Value} {o i : Nat} {ls : List (List UInt8)} {x : List UInt8} (hin : CellsIn cur o (ls.map strV)) (h : ls[i]? = some x) : cur[o + i]? = some (.string (str x)) := hin.get i (strV x) (by rw [List.getElem?_map, h]; rfl)
theorem str_inj {a b : List UInt8} (h : str a = str b) : a = b := by
  have := congrArg (fun t : ByteArray => t.data.toList) h
  simpa [str] using this
theorem take_agree {xa bs : List (List UInt8)} {i : Nat} {x : List UInt8} (h : xa.take i = bs.take i) (h1 : xa[i]? = some x) (h2 : bs[i]? = some x) : xa.take (i + 1) = bs.take (i + 1) := by
  rw [List.take_add_one, List.take_add_one, h, h1, h2]

theorem few_some (g o cap : Nat) (cur : Array Value) (T : TypeId) (z : Nat × Nat) (ls : List (List UInt8)) (hin : CellsIn cur o (ls.map strV)) (hls : ls.length ≤ 9223372036854775807) :
    Does Tryz.prog 37 #[.slice (some ⟨g, o, none⟩) ls.length cap] [[(g, .cells cur T z)]] (fun r H' => ∃ sv, Row 9 r ((fewL ls).map strV) sv ∧ H' = [[(g, .cells cur T z)], sv]) := by
 have hml : maxLen = 9223372036854775807 := rfl
 refine spec_enter func37 rfl ntmps37 rfl ?_
 intro u R
 refine Zb [0] ?_
 refine Zq <| Zg <| Za Y <| Z0 <| Zx <| Zq <| Zg <| Za Y <| Z0 <| Zx <| Zq <| Zq <| Zg <| Za Y <| Z0 <| Zx <| at_block <| at_nil ?_
 refine Zb [3, 4, 0] ?_
 refine at_loopB (e0 := [(3, _), (4, _)]) (H0 := _) (n := _) (fun m e H => ∃ (i : Nat) (v : Value) (sv : List Chunk), m = 6 - i ∧ (i ≤ ls.length ∧ i ≤ 6 ∧ Row 9 v (((ls.take i).map (·.take 100)).map strV) sv) ∧ e = [(3, v), (4, .int .i64 (i : Int))] ∧ H = [sv]) (by exact ⟨0, _, [], rfl, ⟨Nat.zero_le _, Nat.zero_le _, row_nil _⟩, rfl, rfl⟩) (by repeat (first | exact Pull.nil _ | (apply Pull.cons; (focus (repeat (first | exact One.here _ _ | apply One.there)))))) ?_
 rintro _ _ _ ⟨i, v, sv, rfl, ⟨hi, hi6, hrv⟩, rfl, rfl⟩
 obtain ⟨gv, cv, rfl⟩ := hrv.form
 have htl : (ls.take i).length ≤ i := List.length_take_le ..
 refine Zq <| Zq <| Zg <| Zm Y <| Zm Y <| Zv (p_len_slice underlying43 Y) ?_
 first | refine op_v (p_lss_nat Y Y) ?_ | refine op_v (p_lss Y Y) ?_
 refine Zm Y ?_
 first | refine ops_split (t := 9) Y rfl (fun hlt => ?_) (fun hlt => ?_) | refine ops_split_bool (t := 9) Y rfl (fun hlt => ?_) (fun hlt => ?_)
 ·
  refine Zf Y Y ?_
  first | refine op_wg Y (p_lss_nat (n := 6) Y Y) rfl rfl ?_ | refine op_wg Y (p_lss Y Y) rfl rfl ?_
  refine Zv (p_pick_t Y Y) <| Z0 <| Zx ?_
  first | refine at_if Y (fun hl6 => ?_) (fun hl6 => ?_) | refine at_if_bool Y (fun hl6 => ?_) (fun hl6 => ?_)
  ·
   refine at_skip <| Zx <| Zq <| at_block ?_
   obtain ⟨x, hx⟩ : ∃ x, ls[i]? = some x := ⟨_, List.getElem?_eq_getElem hlt⟩
   have hcell := cellAt hin hx
   refine at_draw (n := 15) (0 :: 0 :: 0 :: 6 :: 14 :: 0 :: 0 :: 96 :: 224 :: 480 :: 992 :: 2046 :: 4094 :: 8191 :: 16383 :: []) 12288 (by kernel_rfl) (by kernel_rfl) rfl ?_
   refine Zi 1 0 rfl (p_move Y) <| Zi 3 1 rfl (p_move Y) <| Zi 7 2 rfl (p_move Y) ?_
   first | (refine lin_v (D' := 15) 3 (p_indexAddr_nat0 underlying43 sizeOf9 Y Y ?_) ?_; (focus (omega))) | (refine lin_v (D' := 15) 3 (p_indexAddr_nat1 underlying43 sizeOf9 Y Y ?_) ?_; (focus (omega)))
   refine Zj 31 4 rfl isAgg9 Y (hv := by first | exact hcell | (rw [Nat.mul_one]; exact hcell)) ?_
   refine Zi 63 5 rfl (p_move Y) <| Zi 127 6 rfl (p_move Y) ?_
   first | (refine lin_v (D' := 255) 7 (p_indexAddr_nat0 underlying43 sizeOf9 Y Y ?_) ?_; (focus (omega))) | (refine lin_v (D' := 255) 7 (p_indexAddr_nat1 underlying43 sizeOf9 Y Y ?_) ?_; (focus (omega)))
   refine Zj 511 8 rfl isAgg9 Y (hv := by first | exact hcell | (rw [Nat.mul_one]; exact hcell)) ?_
   refine Zi 1023 9 rfl (p_len_str underlying9 Y) ?_
   first | refine lin_v (D' := 2047) 10 (p_min_nat (n := 100) Y Y) ?_ | refine lin_v (D' := 2047) 10 (p_min_int Y Y) ?_
   refine lin_w (D' := 4095) 11 rfl rfl rfl (p_slice_min underlying9 Y Y) ?_
   refine Zz (l := [12]) ?_
   refine Zy 4094 8191 [8, 4] [false, false] [] rfl Y rfl rfl rfl rfl (w_buildSlice (vs := [_]) (cs := [_]) underlying43 sizeOf9 zeroValue9 Y rfl rfl rfl rfl rfl) ?hk_2 (fun _ _ h => h.elim) ?hl_2
   case hk_2 =>
    rintro _ _ ⟨b1, rfl, rfl⟩
    refine ⟨keep_nil, ?_⟩
    refine Zz (l := [13]) ?_
    refine Zy 8191 16383 [] [] [] rfl Y rfl rfl rfl rfl (w_append (by_ := 16) (news := [_]) underlying43 (rfl : Tryz.prog.info? 9 = some Tryz.t9) rfl rfl rfl rfl Y hrv Y (by repeat (first | exact One.here _ _ | apply One.there)) (by repeat (first | exact Has.here _ | apply Has.there)) (by rfl) rfl (by simp [Value.oneCell']) (by decide) (by (simp only [List.length_map]; omega)) (by (simp only [List.length_map]; omega))) ?hk_3 (fun _ _ h => h.elim) ?hl_3
    case hk_3 =>
     rintro _ _ ⟨sq, hrq, rfl⟩
     refine ⟨keep_nil, ?_⟩
     obtain ⟨gq, cq, rfl⟩ := hrq.form
     refine Zi 32767 14 rfl (p_assign Y) <| lin_nil ?_
     refine Zn [0, 3, 4] ?_
     refine nx_block_normal <| Zx <| Zg <| Zm Y ?_
     first | (refine op_v (p_add_nat (n := 1) Y Y ?_) ?_; (focus (omega))) | (refine op_v (p_add Y Y (IntWalk.i64_in _ ?_)) ?_; (focus (omega)))
     refine Za Y <| Z0 <| Zn [3, 4, 0] ?_
     refine nx_againB (e' := [(3, _), (4, _)]) (m := _) (H' := _) (by exact ⟨i + 1, _, _, rfl, ⟨by omega, by omega, by rw [take_map_snoc ls i x hx]; exact hrq⟩, rfl, rfl⟩)
    case hl_3 =>
     exact each_nil
   case hl_2 =>
    exact each_nil
  ·
   have hend : fewL ls = (ls.take i).map (·.take 100) := by
     have : i = 6 := by omega
     subst this; rfl
   refine at_exit <| Zt <| Zt <| nx_block_exit <| Zx <| Zq <| Zg <| Zm Y <| Za Y <| Z0 <| Zx <| at_ret ?_
   refine nx_end1 rfl results37 Y (by exact ⟨_, by rw [hend]; exact hrv, rfl⟩)
 ·
  have hend : fewL ls = (ls.take i).map (·.take 100) := by
    unfold fewL
    rw [List.take_of_length_le (by omega), List.take_of_length_le (by omega)]
  refine op_skip Y rfl <| op_skip Y rfl <| Zv (p_pick_f Y Y) <| Z0 <| Zx <| at_else Y <| at_exit <| Zt <| Zt <| nx_block_exit <| Zx <| Zq <| Zg <| Zm Y <| Za Y <| Z0 <| Zx <| at_ret ?_
  refine nx_end1 rfl results37 Y (by exact ⟨_, by rw [hend]; exact hrv, rfl⟩)

theorem few_zero (p : Option Addr) (cap : Nat) : DoesR Tryz.prog 37 #[.slice p 0 cap] [] (.slice none 0 0) := by
 refine spec_enter func37 rfl ntmps37 rfl ?_
 intro u R
 refine Zb [0] ?_
 refine Zq <| Zg <| Za Y <| Z0 <| Zx <| Zq <| Zg <| Za Y <| Z0 <| Zx <| Zq <| Zq <| Zg <| Za Y <| Z0 <| Zx <| at_block <| Zb [3, 4, 0] ?_
 refine at_loopB (e0 := [(3, _), (4, _)]) (H0 := _) (n := _) (fun m e H => ∃ (i : Nat), m = 0 + i ∧ (True) ∧ e = [(3, .slice none 0 0), (4, .int .i64 (i : Int))] ∧ H = []) (by exact ⟨0, rfl, trivial, rfl, rfl⟩) (by repeat (first | exact Pull.nil _ | (apply Pull.cons; (focus (repeat (first | exact One.here _ _ | apply One.there)))))) ?_
 rintro _ _ _ ⟨i, rfl, _, rfl, rfl⟩
 refine Zq <| Zq <| Zg <| Zm Y <| Zm Y <| Zv (p_len_slice underlying43 Y) ?_
 first | refine op_v (p_lss_nat Y Y) ?_ | refine op_v (p_lss Y Y) ?_
 refine Zm Y ?_
 first | refine ops_split (t := 9) Y rfl (fun hc1 => ?_) (fun hc1 => ?_) | refine ops_split_bool (t := 9) Y rfl (fun hc1 => ?_) (fun hc1 => ?_)
 ·
  exfalso; omega
 ·
  refine op_skip Y rfl <| op_skip Y rfl <| Zv (p_pick_f Y Y) <| Z0 <| Zx <| at_else Y <| at_exit <| Zt <| Zt <| nx_block_exit <| Zx <| Zq <| Zg <| Zm Y <| Za Y <| Z0 <| Zx <| at_ret ?_
  refine nx_end1 rfl results37 Y (by exact ⟨rfl, rfl⟩)

theorem same_some (g o cap g' o' cap' : Nat) (cur cur' : Array Value) (T T' : TypeId) (z z' : Nat × Nat) (xa bs : List (List UInt8)) (hin : CellsIn cur o (xa.map strV)) (hin' : CellsIn cur' o' (bs.map strV)) (hls : xa.length ≤ 1099511627776) :
    DoesR Tryz.prog 25 #[.slice (some ⟨g, o, none⟩) xa.length cap, .slice (some ⟨g', o', none⟩) bs.length cap'] [[(g, .cells cur T z)], [(g', .cells cur' T' z')]] (.bool (decide (xa = bs))) := by
 refine spec_enter func25 rfl ntmps25 rfl ?_
 intro u R
 refine Zb [0, 1] ?_
 refine Zq <| Zg <| Za Y <| Z0 <| Zx <| Zq <| Zq <| Zg <| Zm Y <| Zv (p_len_slice underlying43 Y) <| Zm Y <| Zv (p_len_slice underlying43 Y) ?_
 first | refine op_v (p_neq_nat Y Y) ?_ | refine op_v (p_neq Y Y) ?_
 refine Z0 <| Zx ?_
 first | refine at_if Y (fun hne => ?_) (fun hne => ?_) | refine at_if_bool Y (fun hne => ?_) (fun hne => ?_)
 ·
  have hd : decide (xa = bs) = false := decide_eq_false (fun e => hne (by rw [e]))
  refine Zq <| Zg <| Za Y <| Z0 <| Zx <| at_ret <| Zt ?_
  refine nx_end1 rfl results25 Y (by exact ⟨by rw [hd], rfl⟩)
 ·
  refine at_skip <| Zx <| Zq <| Zq <| Zg <| Za Y <| Z0 <| Zx <| at_block <| Zb [5, 0, 1] ?_
  refine at_loopB (e0 := [(5, _)]) (H0 := _) (n := _) (fun m e H => ∃ (i : Nat), m = xa.length - i ∧ (i ≤ xa.length ∧ xa.take i = bs.take i) ∧ e = [(5, .int .i64 (i : Int))] ∧ H = []) (by exact ⟨0, rfl, ⟨Nat.zero_le _, rfl⟩, rfl, rfl⟩) (by repeat (first | exact Pull.nil _ | (apply Pull.cons; (focus (repeat (first | exact One.here _ _ | apply One.there)))))) ?_
  rintro _ _ _ ⟨i, rfl, ⟨hi, hag⟩, rfl, rfl⟩
  refine Zq <| Zq <| Zg <| Zm Y <| Zm Y <| Zv (p_len_slice underlying43 Y) ?_
  first | refine op_v (p_lss_nat Y Y) ?_ | refine op_v (p_lss Y Y) ?_
  refine Z0 <| Zx ?_
  first | refine at_if Y (fun hlt => ?_) (fun hlt => ?_) | refine at_if_bool Y (fun hlt => ?_) (fun hlt => ?_)
  ·
   refine at_skip <| Zx <| Zq <| at_block <| Zq ?_
   obtain ⟨x, hx⟩ : ∃ x, xa[i]? = some x := ⟨_, List.getElem?_eq_getElem hlt⟩
   obtain ⟨y, hy⟩ : ∃ y, bs[i]? = some y := ⟨_, List.getElem?_eq_getElem (by omega)⟩
   have hcx := cellAt hin hx
   have hcy := cellAt hin' hy
   refine at_draw (n := 9) (0 :: 0 :: 3 :: 7 :: 0 :: 0 :: 48 :: 112 :: 255 :: []) 0 (by kernel_rfl) (by kernel_rfl) rfl ?_
   refine Zi 1 0 rfl (p_move Y) <| Zi 3 1 rfl (p_move Y) ?_
   first | (refine lin_v (D' := 7) 2 (p_indexAddr_nat0 underlying43 sizeOf9 Y Y ?_) ?_; (focus (omega))) | (refine lin_v (D' := 7) 2 (p_indexAddr_nat1 underlying43 sizeOf9 Y Y ?_) ?_; (focus (omega)))
   refine Zj 15 3 rfl isAgg9 Y (hv := by first | exact hcx | (rw [Nat.mul_one]; exact hcx)) ?_
   refine Zi 31 4 rfl (p_move Y) <| Zi 63 5 rfl (p_move Y) ?_
   first | (refine lin_v (D' := 127) 6 (p_indexAddr_nat0 underlying43 sizeOf9 Y Y ?_) ?_; (focus (omega))) | (refine lin_v (D' := 127) 6 (p_indexAddr_nat1 underlying43 sizeOf9 Y Y ?_) ?_; (focus (omega)))
   refine Zj 255 7 rfl isAgg9 Y (hv := by first | exact hcy | (rw [Nat.mul_one]; exact hcy)) ?_
   refine Zi 511 8 rfl (p_neq_str Y Y) <| lin_nil ?_
   refine Zn [0, 1, 5, 25] ?_
   refine Zx ?_
   first | refine at_if Y (fun hxy => ?_) (fun hxy => ?_) | refine at_if_bool Y (fun hxy => ?_) (fun hxy => ?_)
   ·
    have hd : decide (xa = bs) = false := decide_eq_false (fun e => hxy (by rw [e, hy] at hx; injection hx with hx; rw [hx]))
    refine Zq <| Zg <| Za Y <| Z0 <| Zx <| at_ret <| nx_block_ret <| Zt <| Zt <| nx_block_ret <| Zt ?_
    refine nx_end1 rfl results25 Y (by exact ⟨by rw [hd], rfl⟩)
   ·
    refine at_skip <| nx_block_normal <| Zx <| Zg <| Zm Y ?_
    first | (refine op_v (p_add_nat (n := 1) Y Y ?_) ?_; (focus (omega))) | (refine op_v (p_add Y Y (IntWalk.i64_in _ ?_)) ?_; (focus (omega)))
    refine Za Y <| Z0 <| Zn [5, 0, 1] ?_
    refine nx_againB (e' := [(5, _)]) (m := _) (H' := _) (by exact ⟨i + 1, rfl, ⟨by omega, by have e := str_inj (Classical.not_not.1 hxy); subst e; exact take_agree hag hx hy⟩, rfl, rfl⟩)
  ·
   have hd : decide (xa = bs) = true := decide_eq_true (by
     have ei : i = xa.length := by omega
     subst ei
     rw [List.take_length] at hag
     rw [hag, List.take_of_length_le (by omega)])
   refine at_exit <| Zt <| Zt <| nx_block_exit <| Zx <| Zq <| Zg <| Za Y <| Z0 <| Zx <| at_ret ?_
   refine nx_end1 rfl results25 Y (by exact ⟨by rw [hd], rfl⟩)

theorem same_zero (p q : Option Addr) (m cap cap' : Nat) : DoesR Tryz.prog 25 #[.slice p 0 cap, .slice q m cap'] [] (.bool (decide (m = 0))) := by
 refine spec_enter func25 rfl ntmps25 rfl ?_
 intro u R
 refine Zb [0, 1] ?_
 refine Zq <| Zg <| Za Y <| Z0 <| Zx <| Zq <| Zq <| Zg <| Zm Y <| Zv (p_len_slice underlying43 Y) <| Zm Y <| Zv (p_len_slice underlying43 Y) ?_
 first | refine op_v (p_neq_nat Y Y) ?_ | refine op_v (p_neq Y Y) ?_
 refine Z0 <| Zx ?_
 first | refine at_if Y (fun hne => ?_) (fun hne => ?_) | refine at_if_bool Y (fun hne => ?_) (fun hne => ?_)
 ·
  have hd : decide (m = 0) = false := decide_eq_false (by omega)
  refine Zq <| Zg <| Za Y <| Z0 <| Zx <| at_ret <| Zt ?_
  refine nx_end1 rfl results25 Y (by exact ⟨by rw [hd], rfl⟩)
 ·
  have hd : decide (m = 0) = true := decide_eq_true (by omega)
  refine at_skip <| Zx <| Zq <| Zq <| Zg <| Za Y <| Z0 <| Zx <| at_block <| Zb [5, 0, 1] ?_
  refine at_loopB (e0 := [(5, _)]) (H0 := _) (n := _) (fun m e H => ∃ (i : Nat), m = 0 + i ∧ (True) ∧ e = [(5, .int .i64 (i : Int))] ∧ H = []) (by exact ⟨0, rfl, trivial, rfl, rfl⟩) (by repeat (first | exact Pull.nil _ | (apply Pull.cons; (focus (repeat (first | exact One.here _ _ | apply One.there)))))) ?_
  rintro _ _ _ ⟨i, rfl, _, rfl, rfl⟩
  refine Zq <| Zq <| Zg <| Zm Y <| Zm Y <| Zv (p_len_slice underlying43 Y) ?_
  first | refine op_v (p_lss_nat Y Y) ?_ | refine op_v (p_lss Y Y) ?_
  refine Z0 <| Zx ?_
  first | refine at_if Y (fun hc1 => ?_) (fun hc1 => ?_) | refine at_if_bool Y (fun hc1 => ?_) (fun hc1 => ?_)
  ·
   exfalso; omega
  ·
   refine at_exit <| Zt <| Zt <| nx_block_exit <| Zx <| Zq <| Zg <| Za Y <| Z0 <| Zx <| at_ret ?_
   refine nx_end1 rfl results25 Y (by exact ⟨by rw [hd], rfl⟩)

theorem zz_nat (n : Nat) : zz (n : Int) = 2 * n := by unfold zz; rw [if_neg (by omega)]; omega

theorem rzig_spec (n : Nat) (h2 : n ≤ 4611686018427387903) : DoesR Tryz.prog 156 #[.int .i64 (n : Int)] [] (.int .u64 ((zz (n : Int) : Nat) : Int)) := by
 refine spec_enter func156 rfl ntmps156 rfl ?_
 intro u R
 refine Zb [0] ?_
 refine Zq <| Zg <| Za Y <| Z0 <| Zx <| Zq <| Zq <| Zg <| Zm Y ?_
 first | refine op_v (p_lss_nat (n := 0) Y Y) ?_ | refine op_v (p_lss Y Y) ?_
 refine Z0 <| Zx ?_
 first | refine at_if Y (fun hc1 => ?_) (fun hc1 => ?_) | refine at_if_bool Y (fun hc1 => ?_) (fun hc1 => ?_)
 ·
  exfalso; omega
 ·
  refine at_skip <| Zx <| Zq <| Zg <| Zm Y ?_
  first | (refine op_v (p_conv_nat_u64 underlying3 underlying223 Y ?_) ?_; (focus (omega))) | refine op_v (p_conv_int underlying3 underlying223 Y rfl) ?_
  first | (refine op_v (p_mul_nat_u64 (n := 2) Y Y ?_) ?_; (focus (omega))) | refine op_v (p_mul Y Y rfl) ?_
  refine Za Y <| Z0 <| Zx <| at_ret ?_
  refine nx_end1 rfl results156 Y (by exact ⟨by rw [zz_nat]; congr 1; omega, rfl⟩)

theorem rputInt_spec (n : Nat) (h2 : n ≤ 4611686018427387903) : DoesR Tryz.prog 125 #[.int .i64 (n : Int)] [] (.tuple #[.string (str (encI (n : Int))), .int .i64 0]) := by
 have hml : maxLen = 9223372036854775807 := rfl
 have hzl := zz_lt (n : Int) (by omega) (by omega)
 have hgl := encI_len (n : Int) (by omega) (by omega)
 unfold encI at hgl
 rw [List.length_map] at hgl
 refine spec_enter func125 rfl ntmps125 rfl ?_
 intro u R
 refine Zb [0] ?_
 refine Zq <| Zg <| Za Y <| Za Y <| Z0 <| Zx <| Zq <| Zq <| Zg <| Zm Y <| Zv (p_lss Y Y) <| Zm Y ?_
 first | refine ops_split (t := 8) Y rfl (fun hc1 => ?_) (fun hc1 => ?_) | refine ops_split_bool (t := 8) Y rfl (fun hc1 => ?_) (fun hc1 => ?_)
 ·
  exfalso; omega
 ·
  refine Zf Y Y <| op_wg Y (p_gtr Y Y) rfl rfl ?_
  refine Zv (p_pick_f Y Y) <| Z0 <| Zx ?_
  first | refine at_if Y (fun hc2 => ?_) (fun hc2 => ?_) | refine at_if_bool Y (fun hc2 => ?_) (fun hc2 => ?_)
  ·
   exfalso; omega
  ·
   refine at_skip <| Zx <| Zq <| Zg <| Zm Y <| Zr [_] Y call156 Y rfl (rzig_spec n h2) ?_
   rintro _ _ ⟨rfl, rfl⟩
   refine Za Y <| Z0 <| Zx <| Zq <| Zg <| Za Y <| Z0 <| Zx <| Zq <| at_block <| at_nil ?_
   refine Zb [4, 5] ?_
   refine at_loopB (e0 := [(4, _), (5, _)]) (H0 := _) (n := _) (fun m e H => ∃ (pre : List (Nat × Bool)) (y : Nat) (v : Value) (sv : List Chunk), m = 0 + y ∧ (grps (zz (n : Int)) = pre ++ grps y ∧ y < 9223372036854775808 ∧ Row 5 v ((pre.map gb).map u8v) sv) ∧ e = [(4, .int .u64 (y : Int)), (5, v)] ∧ H = [sv]) (by exact ⟨[], zz (n : Int), _, [], rfl, ⟨rfl, hzl, row_nil _⟩, rfl, rfl⟩) (by repeat (first | exact Pull.nil _ | (apply Pull.cons; (focus (repeat (first | exact One.here _ _ | apply One.there)))))) ?_
   rintro _ _ _ ⟨pre, y, v, sv, rfl, ⟨hsp, hy, hrv⟩, rfl, rfl⟩
   have hpl := congrArg List.length hsp
   rw [List.length_append, grps_eq y, List.length_cons] at hpl
   obtain ⟨gv, cv, rfl⟩ := hrv.form
   refine Zq <| Zq <| Zg <| Zm Y ?_
   first | refine op_v (p_geq_nat (n := 128) Y Y) ?_ | refine op_v (p_geq Y Y) ?_
   refine Z0 <| Zx ?_
   first | refine at_if Y (fun hge => ?_) (fun hge => ?_) | refine at_if_bool Y (fun hge => ?_) (fun hge => ?_)
   ·
    refine at_skip <| Zx <| at_block <| Zq <| Zg <| Zm Y <| Zm Y <| op_w (p_rem (m := (y : Int)) (n := 128) (c := ((y % 128 : Nat) : Int)) Y Y (by decide) (by rw [Int.tmod_eq_emod_of_nonneg (by omega)]; rfl)) rfl rfl ?_
    first | (refine op_v (p_add_nat_u64 (n := 128) Y Y ?_) ?_; (focus (omega))) | refine op_v (p_add Y Y rfl) ?_
    first | refine op_v (p_conv_u64_u8 underlying223 underlying5 Y) ?_ | (refine op_v (p_conv_nat_u8 underlying223 underlying5 Y ?_) ?_; (focus (omega))) | (refine op_v (p_conv_int underlying223 underlying5 Y (IntWalk.u8_in _ ?_)) ?_; (focus (omega)))
    refine Ze (w_buildSlice (vs := [_]) (cs := [_]) underlying36 sizeOf5 zeroValue5 Y rfl rfl rfl rfl rfl) ?_
    rintro _ _ ⟨b1, rfl, rfl⟩
    refine Ze (w_append (by_ := 1) (news := [_]) underlying36 (rfl : Tryz.prog.info? 5 = some Tryz.t5) rfl rfl rfl rfl Y hrv Y (by repeat (first | exact One.here _ _ | apply One.there)) (by repeat (first | exact Has.here _ | apply Has.there)) (by rfl) rfl (by simp [Value.oneCell']) (by decide) (by (simp only [List.length_map]; omega)) (by (simp only [List.length_map]; omega))) ?_
    rintro _ _ ⟨sq, hrq, rfl⟩
    obtain ⟨gq, cq, rfl⟩ := hrq.form
    refine Za Y <| Z0 <| Zx <| Zg <| Zm Y <| op_w (p_quo (m := (y : Int)) (n := 128) (c := ((y / 128 : Nat) : Int)) Y Y (by decide) (by rw [Int.tdiv_eq_ediv_of_nonneg (by omega), IntKind.wrap_u64]; omega)) rfl rfl ?_
    refine Za Y <| Z0 <| Zn [4, 5] ?_
    refine nx_block_normal <| Zn [4, 5] ?_
    refine nx_againB (e' := [(4, _), (5, _)]) (m := _) (H' := _) (by
          exact ⟨pre ++ [(y % 128, false)], y / 128, _, _, rfl, ⟨by rw [hsp, grps_eq y, if_neg (by omega), decide_eq_false (by omega)]; simp, by omega, by
            have hgv := gb_val (y % 128, false) (Nat.mod_lt _ (by decide))
            rw [List.map_append, List.map_append, List.map_singleton, List.map_singleton, hgv]; exact hrq⟩, rfl, rfl⟩)
   ·
    have hfin : (grps (zz (n : Int))).map gb = pre.map gb ++ [gb (y, true)] := by rw [hsp, grps_eq y, if_pos (by omega), decide_eq_true (by omega), Nat.mod_eq_of_lt (by omega)]; simp
    have hgv := gb_val (y, true) (by show y < 128; omega)
    refine at_exit <| Zt <| Zt <| nx_block_exit <| Zx <| Zq <| Zg <| Zm Y <| Zm Y ?_
    first | refine op_v (p_conv_u64_u8 underlying223 underlying5 Y) ?_ | (refine op_v (p_conv_nat_u8 underlying223 underlying5 Y ?_) ?_; (focus (omega))) | (refine op_v (p_conv_int underlying223 underlying5 Y (IntWalk.u8_in _ ?_)) ?_; (focus (omega)))
    refine Ze (w_buildSlice (vs := [_]) (cs := [_]) underlying36 sizeOf5 zeroValue5 Y rfl rfl rfl rfl rfl) ?_
    rintro _ _ ⟨b3, rfl, rfl⟩
    refine Ze (w_append (by_ := 1) (news := [_]) underlying36 (rfl : Tryz.prog.info? 5 = some Tryz.t5) rfl rfl rfl rfl Y hrv Y (by repeat (first | exact One.here _ _ | apply One.there)) (by repeat (first | exact Has.here _ | apply Has.there)) (by rfl) rfl (by simp [Value.oneCell']) (by decide) (by (simp only [List.length_map]; omega)) (by (simp only [List.length_map]; omega))) ?_
    rintro _ _ ⟨sw, hrw, rfl⟩
    obtain ⟨gw, cw, rfl⟩ := hrw.form
    have e9 : List.map u8v (List.map gb pre) ++ [Value.int .u8 (y : Int)] = (encI (n : Int)).map u8v := by
      unfold encI; rw [hfin, List.map_append, List.map_singleton, hgv]; rfl
    rw [e9] at hrw ⊢
    obtain ⟨g9, c9, cur9, z9, hv9, rfl, hle9, hcm9, hcs9, htk9, hfr9⟩ := hrw.some (by rw [List.length_map]; exact encI_pos _)
    rw [hv9]
    refine Zo (by repeat (first | exact Has.here _ | apply Has.there)) (p_conv_bytes_str underlying36 underlying5 underlying9 Y (by exact ⟨htk9, by simp⟩)) ?_
    refine Za Y <| Za Y <| Z0 <| Zx <| at_ret ?_
    refine nx_end2 rfl results125 Y Y (by exact ⟨rfl, rfl⟩)

theorem rputString_spec (s : List UInt8) (hs : s.length ≤ 65536) : DoesR Tryz.prog 154 #[.string (str s)] [] (.tuple #[.string (str (encS s)), .int .i64 0]) := by
 have hss := str_size s
 have hel := encI_len s.length (by omega) (by omega)
 refine spec_enter func154 rfl ntmps154 rfl ?_
 intro u R
 refine Zb [0] ?_
 refine Zq <| Zg <| Za Y <| Za Y <| Z0 <| Zx <| Zq <| Zq <| Zg <| Zm Y <| Zv (p_len_str underlying9 Y) ?_
 first | refine op_v (p_gtr_nat (n := 65536) Y Y) ?_ | refine op_v (p_gtr Y Y) ?_
 refine Z0 <| Zx ?_
 first | refine at_if Y (fun hc1 => ?_) (fun hc1 => ?_) | refine at_if_bool Y (fun hc1 => ?_) (fun hc1 => ?_)
 ·
  exfalso; omega
 ·
  refine at_skip <| Zx <| Zq <| Zg <| Zm Y <| Zv (p_len_str underlying9 Y) <| Zr [_] Y call125 Y rfl (rputInt_spec _ (by omega)) ?_
  rintro _ _ ⟨rfl, rfl⟩
  refine Zm Y <| Zd Y rfl <| Zd Y rfl <| Za Y <| Za Y <| Z0 <| Zn [0, 4] ?_
  refine Zx <| Zq <| Zg <| Zm Y <| Zm Y ?_
  (refine op_v (p_add_str Y Y ?_) ?_; (focus (rw [hss, str_size]; omega)))
  refine Za Y <| Za Y <| Z0 <| Zx <| at_ret ?_
  refine nx_end2 rfl results154 Y Y (by exact ⟨by rw [str_app, hss]; rfl, rfl⟩)

end Go.Proofs.YthbadolcncojbaaGreatDoor
