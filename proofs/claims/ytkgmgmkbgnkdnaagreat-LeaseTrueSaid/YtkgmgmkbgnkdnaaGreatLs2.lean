/- The law LeaseTrue. -/
import Derived.Test.YtkgmgmkbgnkdnaaGreatEz
import Derived.Test.YtkgmgmkbgnkdnaaGreatLs1
import Derived.Test.YtkgmgmkbgnkdnaaGreatQe8
import Derived.Test.YtkgmgmkbgnkdnaaGreatTl0
import Derived.Test.YtkgmgmkbgnkdnaaGreatLeaseF2

namespace Go.Proofs.YtkgmgmkbgnkdnaaGreat
open Go.Proofs.Tryz
open Go Go.RowKit Gw
set_option linter.unusedVariables false
set_option linter.unusedSimpArgs false
set_option maxRecDepth 100000
attribute [local irreducible] Gw.At Gw.Nx Gw.Ops
theorem sane16 : DoesR Tryz.prog 4 #[] [] (.bool true) := fun u R w hs => (sane_calls w).mono (by
  rintro e w' ⟨rfl, hb⟩
  exact .inl ⟨_, [], rfl, ⟨rfl, rfl⟩, hs.below hb⟩)
theorem valid_of {kd tb cl lo hi bq ot : Int} (h : (0 ≤ tb ∧ tb ≤ 3) ∧ (0 ≤ cl ∧ cl ≤ 3) ∧ (-1000000000 ≤ lo ∧ lo ≤ hi ∧ hi ≤ 1000000000) ∧
  ((kd = 1 ∧ cl = 0 ∧ lo = hi ∧ (1 ≤ lo ∧ lo ≤ 1000000) ∧ bq = 0 ∧ ot = 0) ∨ ((kd = 2 ∨ kd = 3) ∧ bq = 0 ∧ ot = 0) ∨
   ((kd = 4 ∨ kd = 5 ∨ kd = 6) ∧ (1 ≤ bq ∧ bq ≤ 3) ∧ ot = 0) ∨ (kd = 7 ∧ (1 ≤ bq ∧ bq ≤ 3) ∧ (0 ≤ ot ∧ ot ≤ 3)))) : ValidQ ⟨kd, tb, cl, lo, hi, bq, ot⟩ := h
theorem eval_len (rs : List RowM) (q : QM) : (evalT rs q).rows.length ≤ 2 * rs.length := by
  have h1 : (scanL rs q).length ≤ rs.length := (@rangeL_sub rs q.tb q.cl.toNat q.lo q.hi).1
  have h2 := join_len q (scanL rs q) (tabL rs q.ot)
  unfold evalT fromQ
  split
  · simp
  · split
    · simp
    · split
      · rw [show (extT (fun a b => decide (a < b)) (measT q (scanL rs q))).rows = [] from extT_rows (fun a b => decide (a < b)) (measT q (scanL rs q)) ResM.none]; simp
      · split
        · rw [show (extT (fun a b => decide (b < a)) (measT q (scanL rs q))).rows = [] from extT_rows (fun a b => decide (b < a)) (measT q (scanL rs q)) ResM.none]; simp
        · split <;> (simp only; omega)
def Barred (l : List RecM) (q : QM) (a i : Nat) (bar : Int) : Prop := ∀ (j : Nat) (r : RecM), a ≤ j → j < i → l[j]? = some r → r.cs.any (touchQ q) = true → (j : Int) + 1 ≤ bar
theorem barred_zero (l : List RecM) (q : QM) (a : Nat) (bar : Int) : Barred l q a a bar := fun j r h1 h2 => by omega
theorem barred_keep {l : List RecM} {q : QM} {a i : Nat} {bar : Int} (h : Barred l q a i bar) {r : RecM} (hr : l[i]? = some r) (hn : r.cs.any (touchQ q) = false) : Barred l q a (i + 1) bar := fun j r' h1 h2 h3 h4 => by
  rcases Nat.lt_or_ge j i with h5 | h5
  · exact h j r' h1 h5 h3 h4
  · obtain rfl : j = i := by omega
    rw [hr] at h3
    injection h3 with h3
    subst h3
    rw [hn] at h4; cases h4
theorem barred_touch {l : List RecM} {q : QM} {a i : Nat} {bar xp : Int} (h : Barred l q a i bar) (hp : xp = (i : Int) + 1) : Barred l q a (i + 1) (max bar xp) := fun j r' h1 h2 h3 h4 => by
  rcases Nat.lt_or_ge j i with h5 | h5
  · have := h j r' h1 h5 h3 h4; omega
  · omega
theorem barred_out {l : List RecM} {q : QM} {a b c : Nat} {bar : Int} (h : Barred l q a c bar) (hab : a ≤ b) (hb : bar ≤ (b : Int)) : ∀ (i : Nat) (r : RecM), b ≤ i → i < c → l[i]? = some r → ∀ x ∈ r.cs, touchQ q x = false := fun i r h1 h2 h3 x hx => by
  cases ht : touchQ q x with
  | false => rfl
  | true =>
    have := h i r (by omega) h2 h3 (List.any_eq_true.2 ⟨x, hx, ht⟩)
    omega
theorem any_snoc {cs : List Chg} {k : Nat} {x : Chg} (f : Chg → Bool) (hx : cs[k]? = some x) : (cs.take (k + 1)).any f = ((cs.take k).any f || f x) := by
  rw [take_snoc hx, List.any_append, List.any_cons, List.any_nil, Bool.or_false]
theorem tdiv_in {z : Int} (h1 : -9223372036854775808 ≤ z) (h2 : z ≤ 9223372036854775807) : -9223372036854775808 ≤ z.tdiv 12 ∧ z.tdiv 12 ≤ 9223372036854775807 := by
  rcases Int.lt_or_le z 0 with h | h
  · obtain ⟨y, rfl⟩ : ∃ y, z = -y := ⟨-z, by omega⟩
    rw [Int.neg_tdiv, Int.tdiv_eq_ediv_of_nonneg (by omega)]
    omega
  · rw [Int.tdiv_eq_ediv_of_nonneg h]
    omega
theorem esame_two {A B : List Chunk} {va vb : Value} {x y : ResM} (ha : RowsU A va x.rows) (hb : RowsU B vb y.rows) : DoesR Tryz.prog 14 #[.agg #[va, .int .i64 x.val, .bool x.fnd], .agg #[vb, .int .i64 y.val, .bool y.fnd]] [A, B] (.bool (decide (x = y))) :=
  doesR_two (esame_spec (ha.mono (fun c hc => List.mem_append_left B hc)) (hb.mono (fun c hc => List.mem_append_right A hc)))

theorem pick16 (c : Int) (n : Nat) (hn : 0 < n) (hn2 : n ≤ 1000000) (h1 : -9223372036854775808 ≤ c) (h2 : c ≤ 9223372036854775807) : DoesR Tryz.prog 6 #[.int .i64 c, .int .i64 (n : Int)] [] (.int .i64 (pickN c n : Int)) := by
 refine spec_enter func6 rfl ntmps6 rfl ?_
 intro u R
 refine Zb [0, 1] ?_
 refine Zq <| Zg <| Za Y <| Z0 <| Zx <| Zq <| Zq <| Zg <| Zm Y ?_
 first | refine op_v (p_lss_nat (n := 0) Y Y) ?_ | refine op_v (p_lss Y Y) ?_
 refine Z0 <| Zx ?_
 first | refine at_if Y (fun hc1 => ?_) (fun hc1 => ?_) | refine at_if_bool Y (fun hc1 => ?_) (fun hc1 => ?_)
 ·
  refine Zg <| Zm Y ?_
  first | (refine op_v (p_add_nat (n := 1) Y Y ?_) ?_; (focus (omega))) | (refine op_v (p_add Y Y (IntWalk.i64_in _ ?_)) ?_; (focus (omega)))
  (refine op_v (p_neg Y (IntWalk.i64_in _ ?_)) ?_; (focus (omega)))
  refine Za Y <| Z0 <| Zx <| Zq <| Zg <| Zm Y <| Zm Y ?_
  first | (refine op_v (p_rem_nat Y Y ?_) ?_; (focus (omega))) | (refine op_v (p_rem Y Y ?_ rfl) ?_; (focus (omega)))
  refine Za Y <| Z0 <| Zx <| at_ret ?_
  refine nx_end1 rfl results6 Y (by exact ⟨by rw [← pickN_eq]; simp [*], rfl⟩)
 ·
  refine at_skip <| Zx <| Zq <| Zg <| Zm Y <| Zm Y ?_
  first | (refine op_v (p_rem_nat Y Y ?_) ?_; (focus (omega))) | (refine op_v (p_rem Y Y ?_ rfl) ?_; (focus (omega)))
  refine Za Y <| Z0 <| Zx <| at_ret ?_
  refine nx_end1 rfl results6 Y (by exact ⟨by rw [← pickN_eq]; simp [*], rfl⟩)

set_option maxHeartbeats 4000000 in
theorem true_law {M : List Chunk} {v : Value} {xs : List (List Int)} (hX : SixIn M v xs) (q0 q1 q2 q3 q4 be ba ar : Int) (hq01 : -9223372036854775808 ≤ q0) (hq02 : q0 ≤ 9223372036854775807) (hq11 : -9223372036854775808 ≤ q1) (hq12 : q1 ≤ 9223372036854775807) (hq21 : -9223372036854775808 ≤ q2) (hq22 : q2 ≤ 9223372036854775807) (hq31 : -9223372036854775808 ≤ q3) (hq32 : q3 ≤ 9223372036854775807) (hq41 : -9223372036854775808 ≤ q4) (hq42 : q4 ≤ 9223372036854775807) (hbe1 : -9223372036854775808 ≤ be) (hbe2 : be ≤ 9223372036854775807) (hba1 : -9223372036854775808 ≤ ba) (hba2 : ba ≤ 9223372036854775807) (har1 : -9223372036854775808 ≤ ar) (har2 : ar ≤ 9223372036854775807) : DoesR Tryz.prog 3 #[v, .agg #[.int .i64 q0, .int .i64 q1, .int .i64 q2, .int .i64 q3, .int .i64 q4], .int .i64 be, .int .i64 ba, .int .i64 ar] [M] (.bool true) := by
 have hml : maxLen = 9223372036854775807 := rfl
 obtain ⟨py, capy, rfl, hyl, hgy⟩ := id hX
 have hX2 := six_take hX (min xs.length 20) (Nat.min_le_left _ _)
 have hyk : (xs.take (min xs.length 20)).length ≤ 20 := by rw [List.length_take]; omega
 have hp0 := pickN_lt q0 7 (by decide)
 have hp1 := pickN_lt q1 3 (by decide)
 have hp2 := pickN_lt q2 4 (by decide)
 have hp3 := pickN_lt q3 12 (by decide)
 have hp4 := pickN_lt q4 12 (by decide)
 have hp5 := pickN_lt (q4.tdiv 12) 3 (by decide)
 have htd := tdiv_in hq41 hq42
 refine spec_enter func3 rfl ntmps3 rfl ?_
 intro u R
 refine Zb [0, 1, 2, 3, 4] ?_
 refine Zq <| Zg <| Ze (w_box Y (cs := #[_, _, _, _, _]) rfl) ?_
 rintro _ _ ⟨bx, rfl, rfl⟩
 refine Za Y <| Z0 <| Zx <| Zq <| Zg <| Zr [] Y call4 Y rfl (sane16) ?_
 rintro _ _ ⟨rfl, rfl⟩
 refine Za Y <| Z0 <| Zx <| Zq <| Zg <| Zm Y <| Zm Y <| Zv (p_len_slice underlying22 Y) ?_
 first | refine op_v (p_min_nat (n := 20) Y Y) ?_ | refine op_v (p_min_int Y Y) ?_
 (refine op_v (p_slice_slice_to underlying22 sizeOf60 Y Y ?_) ?_; (focus (first | omega | (simp; omega))))
 refine Zc [_] Y call5 Y rfl (r4_log hX2 (by omega)) ?_
 rintro _ _ ⟨_, ⟨l, sl, hlog, hll, hRI, rfl⟩, rfl⟩
 obtain ⟨pl, capl, rfl, hlc, hgl⟩ := id hRI
 refine Za Y <| Z0 <| Zx <| Zb [6, 2, 3, 4, 11, 12] ?_
 refine at_cutB (e0 := [(6, _)]) (H0 := []) (fun e H => ∃ (bq : Nat), (True) ∧ e = [(13, .pointer (some ⟨bq, 0, none⟩))] ∧ H = [[(bq, .cells #[.int .i64 ((1 + pickN q0 7 : Nat) : Int), .int .i64 (pickN q1 3 : Int), .int .i64 (pickN q2 4 : Int), .int .i64 (pickN q3 12 : Int), .int .i64 ((pickN q3 12 + pickN q4 12 : Nat) : Int), .int .i64 2, .int .i64 (pickN (q4.tdiv 12) 3 : Int)] 29 (0, 0))]]) (by repeat (first | exact Pull.nil _ | (apply Pull.cons; (focus (repeat (first | exact One.here _ _ | apply One.there)))))) ?hx_1 ?hy_1
 case hx_1 =>
  refine at_draw (n := 27) (0 :: 1 :: 3 :: 7 :: 0 :: 16 :: 55 :: 0 :: 128 :: 503 :: 0 :: 1024 :: 4087 :: 0 :: 8192 :: 32759 :: 0 :: 65536 :: 262135 :: 524279 :: 0 :: 1048576 :: 3145728 :: 7864311 :: 16777215 :: 0 :: 67108863 :: []) 109351492 (by kernel_rfl) (by kernel_rfl) rfl ?_
  first | (refine lin_v (D' := 1) 0 (p_indexAddr_arr0 (j := 0) underlying23 sizeOf3 Y Y ?_) ?_; (focus (first | omega | decide | (simp; done)))) | (refine lin_v (D' := 1) 0 (p_indexAddr_arr (j := 0) underlying23 sizeOf3 Y Y ?_) ?_; (focus (first | omega | decide | (simp; done))))
  refine Zj 3 1 rfl isAgg3 Y ?_
  first | (refine lin_v (D' := 19) 4 (p_indexAddr_arr0 (j := 1) underlying23 sizeOf3 Y Y ?_) ?_; (focus (first | omega | decide | (simp; done)))) | (refine lin_v (D' := 19) 4 (p_indexAddr_arr (j := 1) underlying23 sizeOf3 Y Y ?_) ?_; (focus (first | omega | decide | (simp; done))))
  refine Zj 51 5 rfl isAgg3 Y ?_
  first | (refine lin_v (D' := 179) 7 (p_indexAddr_arr0 (j := 2) underlying23 sizeOf3 Y Y ?_) ?_; (focus (first | omega | decide | (simp; done)))) | (refine lin_v (D' := 179) 7 (p_indexAddr_arr (j := 2) underlying23 sizeOf3 Y Y ?_) ?_; (focus (first | omega | decide | (simp; done))))
  refine Zj 435 8 rfl isAgg3 Y ?_
  first | (refine lin_v (D' := 1459) 10 (p_indexAddr_arr0 (j := 3) underlying23 sizeOf3 Y Y ?_) ?_; (focus (first | omega | decide | (simp; done)))) | (refine lin_v (D' := 1459) 10 (p_indexAddr_arr (j := 3) underlying23 sizeOf3 Y Y ?_) ?_; (focus (first | omega | decide | (simp; done))))
  refine Zj 3507 11 rfl isAgg3 Y ?_
  first | (refine lin_v (D' := 11699) 13 (p_indexAddr_arr0 (j := 3) underlying23 sizeOf3 Y Y ?_) ?_; (focus (first | omega | decide | (simp; done)))) | (refine lin_v (D' := 11699) 13 (p_indexAddr_arr (j := 3) underlying23 sizeOf3 Y Y ?_) ?_; (focus (first | omega | decide | (simp; done))))
  refine Zj 28083 14 rfl isAgg3 Y ?_
  first | (refine lin_v (D' := 93619) 16 (p_indexAddr_arr0 (j := 4) underlying23 sizeOf3 Y Y ?_) ?_; (focus (first | omega | decide | (simp; done)))) | (refine lin_v (D' := 93619) 16 (p_indexAddr_arr (j := 4) underlying23 sizeOf3 Y Y ?_) ?_; (focus (first | omega | decide | (simp; done))))
  refine Zj 224691 17 rfl isAgg3 Y ?_
  first | (refine lin_v (D' := 1273267) 20 (p_indexAddr_arr0 (j := 4) underlying23 sizeOf3 Y Y ?_) ?_; (focus (first | omega | decide | (simp; done)))) | (refine lin_v (D' := 1273267) 20 (p_indexAddr_arr (j := 4) underlying23 sizeOf3 Y Y ?_) ?_; (focus (first | omega | decide | (simp; done))))
  refine Zj 3370419 21 rfl isAgg3 Y ?_
  refine Zi 7564723 22 rfl (p_quo (m := q4) (n := 12) Y Y (by decide) (IntWalk.i64_in _ (by omega))) ?_
  refine Zz (l := [2, 25]) ?_
  refine Zy 3 7564727 [21, 17, 14, 11, 8, 5, 1] [true, true, true, true, true, true, false] [(21, (_, _)), (17, (_, _)), (14, (_, _)), (11, (_, _)), (8, (_, _)), (5, (_, _))] rfl Y rfl rfl rfl rfl (Zu [_, _] Y call6 Y rfl (pick16 q0 7 (by decide) (by decide) hq01 hq02)) ?hk_2 (fun _ _ h => h.elim) ?hl_2
  case hk_2 =>
   rintro _ _ ⟨rfl, rfl⟩
   refine ⟨Zk (Zk (Zk (Zk (Zk (Zk (keep_nil)))))), ?_⟩
   first | (refine lin_v (D' := 7564735) 3 (p_add_nat (m := 1) Y Y ?_) ?_; (focus (omega))) | (refine lin_v (D' := 7564735) 3 (p_add Y Y (IntWalk.i64_in _ ?_)) ?_; (focus (omega)))
   refine Zz (l := [6, 25]) ?_
   refine Zy 55 7564799 [21, 17, 14, 11, 8, 5] [true, true, true, true, true, false] [(21, (_, _)), (17, (_, _)), (14, (_, _)), (11, (_, _)), (8, (_, _))] rfl Y rfl rfl rfl rfl (Zu [_, _] Y call6 Y rfl (pick16 q1 3 (by decide) (by decide) hq11 hq12)) ?hk_3 (fun _ _ h => h.elim) ?hl_3
   case hk_3 =>
    rintro _ _ ⟨rfl, rfl⟩
    refine ⟨Zk (Zk (Zk (Zk (Zk (keep_nil))))), ?_⟩
    refine Zz (l := [9, 25]) ?_
    refine Zy 503 7565311 [21, 17, 14, 11, 8] [true, true, true, true, false] [(21, (_, _)), (17, (_, _)), (14, (_, _)), (11, (_, _))] rfl Y rfl rfl rfl rfl (Zu [_, _] Y call6 Y rfl (pick16 q2 4 (by decide) (by decide) hq21 hq22)) ?hk_4 (fun _ _ h => h.elim) ?hl_4
    case hk_4 =>
     rintro _ _ ⟨rfl, rfl⟩
     refine ⟨Zk (Zk (Zk (Zk (keep_nil)))), ?_⟩
     refine Zz (l := [12, 25]) ?_
     refine Zy 4087 7569407 [21, 17, 14, 11] [true, true, true, false] [(21, (_, _)), (17, (_, _)), (14, (_, _))] rfl Y rfl rfl rfl rfl (Zu [_, _] Y call6 Y rfl (pick16 q3 12 (by decide) (by decide) hq31 hq32)) ?hk_5 (fun _ _ h => h.elim) ?hl_5
     case hk_5 =>
      rintro _ _ ⟨rfl, rfl⟩
      refine ⟨Zk (Zk (Zk (keep_nil))), ?_⟩
      refine Zz (l := [15, 25]) ?_
      refine Zy 32759 7602175 [21, 17, 14] [true, true, false] [(21, (_, _)), (17, (_, _))] rfl Y rfl rfl rfl rfl (Zu [_, _] Y call6 Y rfl (pick16 q3 12 (by decide) (by decide) hq31 hq32)) ?hk_6 (fun _ _ h => h.elim) ?hl_6
      case hk_6 =>
       rintro _ _ ⟨rfl, rfl⟩
       refine ⟨Zk (Zk (keep_nil)), ?_⟩
       refine Zz (l := [18, 25]) ?_
       refine Zy 262135 7864319 [21, 17] [true, false] [(21, (_, _))] rfl Y rfl rfl rfl rfl (Zu [_, _] Y call6 Y rfl (pick16 q4 12 (by decide) (by decide) hq41 hq42)) ?hk_7 (fun _ _ h => h.elim) ?hl_7
       case hk_7 =>
        rintro _ _ ⟨rfl, rfl⟩
        refine ⟨Zk (keep_nil), ?_⟩
        first | (refine lin_v (D' := 8388607) 19 (p_add_nat Y Y ?_) ?_; (focus (omega))) | (refine lin_v (D' := 8388607) 19 (p_add Y Y (IntWalk.i64_in _ ?_)) ?_; (focus (omega)))
        refine Zz (l := [23, 25]) ?_
        refine Zy 7864311 16777215 [21] [false] [] rfl Y rfl rfl rfl rfl (Zu [_, _] Y call6 Y rfl (pick16 (q4.tdiv 12) 3 (by decide) (by decide) htd.1 htd.2)) ?hk_8 (fun _ _ h => h.elim) ?hl_8
        case hk_8 =>
         rintro _ _ ⟨rfl, rfl⟩
         refine ⟨keep_nil, ?_⟩
         refine Zi 33554431 24 rfl (p_build (vs := [(0, .int .i64 ((1 + pickN q0 7 : Nat) : Int)), (1, .int .i64 (pickN q1 3 : Int)), (2, .int .i64 (pickN q2 4 : Int)), (3, .int .i64 (pickN q3 12 : Int)), (4, .int .i64 ((pickN q3 12 + pickN q4 12 : Nat) : Int)), (5, .int .i64 2), (6, .int .i64 (pickN (q4.tdiv 12) 3 : Int))]) (cs := #[.int .i64 ((1 + pickN q0 7 : Nat) : Int), .int .i64 (pickN q1 3 : Int), .int .i64 (pickN q2 4 : Int), .int .i64 (pickN q3 12 : Int), .int .i64 ((pickN q3 12 + pickN q4 12 : Nat) : Int), .int .i64 2, .int .i64 (pickN (q4.tdiv 12) 3 : Int)]) Y (run_build_struct (pl := #[(0, 1), (1, 1), (2, 1), (3, 1), (4, 1), (5, 1), (6, 1)]) zeroValue29 underlying29 (fun _ => by kernel_rfl) (by kernel_rfl))) ?_
         refine Zz (l := [25]) ?_
         refine Zy 0 67108863 [] [] [] rfl Y rfl rfl rfl rfl (w_alloc zeroValue29 (cs := #[_, _, _, _, _, _, _]) rfl) ?hk_9 (fun _ _ h => h.elim) ?hl_9
         case hk_9 =>
          rintro _ _ ⟨bq, rfl, rfl⟩
          refine ⟨keep_nil, ?_⟩
          refine Zz (l := [26]) ?_
          refine Zy 67108863 134217727 [] [] [] rfl Y rfl rfl rfl rfl (w_store_agg sizeOf29 Y Y (by first | (simp [Value.oneCell']; done) | (simp [Value.oneCell', Value.cells]; done)) (by repeat (first | exact Upd.here _ | apply Upd.there)) (by exact (rfl : _ = (#[.int .i64 ((1 + pickN q0 7 : Nat) : Int), .int .i64 (pickN q1 3 : Int), .int .i64 (pickN q2 4 : Int), .int .i64 (pickN q3 12 : Int), .int .i64 ((pickN q3 12 + pickN q4 12 : Nat) : Int), .int .i64 2, .int .i64 (pickN (q4.tdiv 12) 3 : Int)] : Array Value))) (by first | rfl | (simp; done)) (by first | omega | decide | (simp; done)) (by exact free_zero _)) ?hk_10 (fun _ _ h => h.elim) ?hl_10
          case hk_10 =>
           rintro _ _ ⟨rfl, rfl⟩
           refine ⟨keep_nil, ?_⟩
           refine lin_nil ?_
           refine Zn [13, 2, 3, 4, 11, 12] ?_
           refine nx_cutB (e' := [(13, _)]) (H' := _) (by exact ⟨bq, trivial, rfl, rfl⟩)
          case hl_10 =>
           exact each_nil
         case hl_9 =>
          exact each_nil
        case hl_8 =>
         refine Zy 0 41943039 [21] [true] [(21, (_, _))] rfl Y rfl rfl rfl rfl (w_alloc zeroValue29 (cs := #[_, _, _, _, _, _, _]) rfl) ?hk_12 (fun _ _ h => h.elim) ?hl_12
         case hk_12 =>
          rintro _ _ ⟨bq, rfl, rfl⟩
          refine ⟨Zk (keep_nil), ?_⟩
          refine Zz (l := [23]) ?_
          refine Zy 7864311 50331647 [21] [false] [] rfl Y rfl rfl rfl rfl (Zu [_, _] Y call6 Y rfl (pick16 (q4.tdiv 12) 3 (by decide) (by decide) htd.1 htd.2)) ?hk_13 (fun _ _ h => h.elim) ?hl_13
          case hk_13 =>
           rintro _ _ ⟨rfl, rfl⟩
           refine ⟨keep_nil, ?_⟩
           refine Zi 67108863 24 rfl (p_build (vs := [(0, .int .i64 ((1 + pickN q0 7 : Nat) : Int)), (1, .int .i64 (pickN q1 3 : Int)), (2, .int .i64 (pickN q2 4 : Int)), (3, .int .i64 (pickN q3 12 : Int)), (4, .int .i64 ((pickN q3 12 + pickN q4 12 : Nat) : Int)), (5, .int .i64 2), (6, .int .i64 (pickN (q4.tdiv 12) 3 : Int))]) (cs := #[.int .i64 ((1 + pickN q0 7 : Nat) : Int), .int .i64 (pickN q1 3 : Int), .int .i64 (pickN q2 4 : Int), .int .i64 (pickN q3 12 : Int), .int .i64 ((pickN q3 12 + pickN q4 12 : Nat) : Int), .int .i64 2, .int .i64 (pickN (q4.tdiv 12) 3 : Int)]) Y (run_build_struct (pl := #[(0, 1), (1, 1), (2, 1), (3, 1), (4, 1), (5, 1), (6, 1)]) zeroValue29 underlying29 (fun _ => by kernel_rfl) (by kernel_rfl))) ?_
           refine Zz (l := [26]) ?_
           refine Zy 67108863 134217727 [] [] [] rfl Y rfl rfl rfl rfl (w_store_agg sizeOf29 Y Y (by first | (simp [Value.oneCell']; done) | (simp [Value.oneCell', Value.cells]; done)) (by repeat (first | exact Upd.here _ | apply Upd.there)) (by exact (rfl : _ = (#[.int .i64 ((1 + pickN q0 7 : Nat) : Int), .int .i64 (pickN q1 3 : Int), .int .i64 (pickN q2 4 : Int), .int .i64 (pickN q3 12 : Int), .int .i64 ((pickN q3 12 + pickN q4 12 : Nat) : Int), .int .i64 2, .int .i64 (pickN (q4.tdiv 12) 3 : Int)] : Array Value))) (by first | rfl | (simp; done)) (by first | omega | decide | (simp; done)) (by exact free_zero _)) ?hk_14 (fun _ _ h => h.elim) ?hl_14
           case hk_14 =>
            rintro _ _ ⟨rfl, rfl⟩
            refine ⟨keep_nil, ?_⟩
            refine lin_nil ?_
            refine Zn [13, 2, 3, 4, 11, 12] ?_
            refine nx_cutB (e' := [(13, _)]) (H' := _) (by exact ⟨bq, trivial, rfl, rfl⟩)
           case hl_14 =>
            exact each_nil
          case hl_13 =>
           exact each_nil
         case hl_12 =>
          exact each_nil
       case hl_7 =>
        refine Zy 0 41156607 [21, 17] [true, true] [(21, (_, _)), (17, (_, _))] rfl Y rfl rfl rfl rfl (w_alloc zeroValue29 (cs := #[_, _, _, _, _, _, _]) rfl) ?hk_16 (fun _ _ h => h.elim) ?hl_16
        case hk_16 =>
         rintro _ _ ⟨bq, rfl, rfl⟩
         refine ⟨Zk (Zk (keep_nil)), ?_⟩
         refine Zz (l := [18]) ?_
         refine Zy 262135 41418751 [21, 17] [true, false] [(21, (_, _))] rfl Y rfl rfl rfl rfl (Zu [_, _] Y call6 Y rfl (pick16 q4 12 (by decide) (by decide) hq41 hq42)) ?hk_17 (fun _ _ h => h.elim) ?hl_17
         case hk_17 =>
          rintro _ _ ⟨rfl, rfl⟩
          refine ⟨Zk (keep_nil), ?_⟩
          first | (refine lin_v (D' := 41943039) 19 (p_add_nat Y Y ?_) ?_; (focus (omega))) | (refine lin_v (D' := 41943039) 19 (p_add Y Y (IntWalk.i64_in _ ?_)) ?_; (focus (omega)))
          refine Zz (l := [23]) ?_
          refine Zy 7864311 50331647 [21] [false] [] rfl Y rfl rfl rfl rfl (Zu [_, _] Y call6 Y rfl (pick16 (q4.tdiv 12) 3 (by decide) (by decide) htd.1 htd.2)) ?hk_18 (fun _ _ h => h.elim) ?hl_18
          case hk_18 =>
           rintro _ _ ⟨rfl, rfl⟩
           refine ⟨keep_nil, ?_⟩
           refine Zi 67108863 24 rfl (p_build (vs := [(0, .int .i64 ((1 + pickN q0 7 : Nat) : Int)), (1, .int .i64 (pickN q1 3 : Int)), (2, .int .i64 (pickN q2 4 : Int)), (3, .int .i64 (pickN q3 12 : Int)), (4, .int .i64 ((pickN q3 12 + pickN q4 12 : Nat) : Int)), (5, .int .i64 2), (6, .int .i64 (pickN (q4.tdiv 12) 3 : Int))]) (cs := #[.int .i64 ((1 + pickN q0 7 : Nat) : Int), .int .i64 (pickN q1 3 : Int), .int .i64 (pickN q2 4 : Int), .int .i64 (pickN q3 12 : Int), .int .i64 ((pickN q3 12 + pickN q4 12 : Nat) : Int), .int .i64 2, .int .i64 (pickN (q4.tdiv 12) 3 : Int)]) Y (run_build_struct (pl := #[(0, 1), (1, 1), (2, 1), (3, 1), (4, 1), (5, 1), (6, 1)]) zeroValue29 underlying29 (fun _ => by kernel_rfl) (by kernel_rfl))) ?_
           refine Zz (l := [26]) ?_
           refine Zy 67108863 134217727 [] [] [] rfl Y rfl rfl rfl rfl (w_store_agg sizeOf29 Y Y (by first | (simp [Value.oneCell']; done) | (simp [Value.oneCell', Value.cells]; done)) (by repeat (first | exact Upd.here _ | apply Upd.there)) (by exact (rfl : _ = (#[.int .i64 ((1 + pickN q0 7 : Nat) : Int), .int .i64 (pickN q1 3 : Int), .int .i64 (pickN q2 4 : Int), .int .i64 (pickN q3 12 : Int), .int .i64 ((pickN q3 12 + pickN q4 12 : Nat) : Int), .int .i64 2, .int .i64 (pickN (q4.tdiv 12) 3 : Int)] : Array Value))) (by first | rfl | (simp; done)) (by first | omega | decide | (simp; done)) (by exact free_zero _)) ?hk_19 (fun _ _ h => h.elim) ?hl_19
           case hk_19 =>
            rintro _ _ ⟨rfl, rfl⟩
            refine ⟨keep_nil, ?_⟩
            refine lin_nil ?_
            refine Zn [13, 2, 3, 4, 11, 12] ?_
            refine nx_cutB (e' := [(13, _)]) (H' := _) (by exact ⟨bq, trivial, rfl, rfl⟩)
           case hl_19 =>
            exact each_nil
          case hl_18 =>
           exact each_nil
         case hl_17 =>
          exact each_nil
        case hl_16 =>
         exact each_nil
      case hl_6 =>
       refine Zy 0 41123839 [21, 17, 14] [true, true, true] [(21, (_, _)), (17, (_, _)), (14, (_, _))] rfl Y rfl rfl rfl rfl (w_alloc zeroValue29 (cs := #[_, _, _, _, _, _, _]) rfl) ?hk_21 (fun _ _ h => h.elim) ?hl_21
       case hk_21 =>
        rintro _ _ ⟨bq, rfl, rfl⟩
        refine ⟨Zk (Zk (Zk (keep_nil))), ?_⟩
        refine Zz (l := [15]) ?_
        refine Zy 32759 41156607 [21, 17, 14] [true, true, false] [(21, (_, _)), (17, (_, _))] rfl Y rfl rfl rfl rfl (Zu [_, _] Y call6 Y rfl (pick16 q3 12 (by decide) (by decide) hq31 hq32)) ?hk_22 (fun _ _ h => h.elim) ?hl_22
        case hk_22 =>
         rintro _ _ ⟨rfl, rfl⟩
         refine ⟨Zk (Zk (keep_nil)), ?_⟩
         refine Zz (l := [18]) ?_
         refine Zy 262135 41418751 [21, 17] [true, false] [(21, (_, _))] rfl Y rfl rfl rfl rfl (Zu [_, _] Y call6 Y rfl (pick16 q4 12 (by decide) (by decide) hq41 hq42)) ?hk_23 (fun _ _ h => h.elim) ?hl_23
         case hk_23 =>
          rintro _ _ ⟨rfl, rfl⟩
          refine ⟨Zk (keep_nil), ?_⟩
          first | (refine lin_v (D' := 41943039) 19 (p_add_nat Y Y ?_) ?_; (focus (omega))) | (refine lin_v (D' := 41943039) 19 (p_add Y Y (IntWalk.i64_in _ ?_)) ?_; (focus (omega)))
          refine Zz (l := [23]) ?_
          refine Zy 7864311 50331647 [21] [false] [] rfl Y rfl rfl rfl rfl (Zu [_, _] Y call6 Y rfl (pick16 (q4.tdiv 12) 3 (by decide) (by decide) htd.1 htd.2)) ?hk_24 (fun _ _ h => h.elim) ?hl_24
          case hk_24 =>
           rintro _ _ ⟨rfl, rfl⟩
           refine ⟨keep_nil, ?_⟩
           refine Zi 67108863 24 rfl (p_build (vs := [(0, .int .i64 ((1 + pickN q0 7 : Nat) : Int)), (1, .int .i64 (pickN q1 3 : Int)), (2, .int .i64 (pickN q2 4 : Int)), (3, .int .i64 (pickN q3 12 : Int)), (4, .int .i64 ((pickN q3 12 + pickN q4 12 : Nat) : Int)), (5, .int .i64 2), (6, .int .i64 (pickN (q4.tdiv 12) 3 : Int))]) (cs := #[.int .i64 ((1 + pickN q0 7 : Nat) : Int), .int .i64 (pickN q1 3 : Int), .int .i64 (pickN q2 4 : Int), .int .i64 (pickN q3 12 : Int), .int .i64 ((pickN q3 12 + pickN q4 12 : Nat) : Int), .int .i64 2, .int .i64 (pickN (q4.tdiv 12) 3 : Int)]) Y (run_build_struct (pl := #[(0, 1), (1, 1), (2, 1), (3, 1), (4, 1), (5, 1), (6, 1)]) zeroValue29 underlying29 (fun _ => by kernel_rfl) (by kernel_rfl))) ?_
           refine Zz (l := [26]) ?_
           refine Zy 67108863 134217727 [] [] [] rfl Y rfl rfl rfl rfl (w_store_agg sizeOf29 Y Y (by first | (simp [Value.oneCell']; done) | (simp [Value.oneCell', Value.cells]; done)) (by repeat (first | exact Upd.here _ | apply Upd.there)) (by exact (rfl : _ = (#[.int .i64 ((1 + pickN q0 7 : Nat) : Int), .int .i64 (pickN q1 3 : Int), .int .i64 (pickN q2 4 : Int), .int .i64 (pickN q3 12 : Int), .int .i64 ((pickN q3 12 + pickN q4 12 : Nat) : Int), .int .i64 2, .int .i64 (pickN (q4.tdiv 12) 3 : Int)] : Array Value))) (by first | rfl | (simp; done)) (by first | omega | decide | (simp; done)) (by exact free_zero _)) ?hk_25 (fun _ _ h => h.elim) ?hl_25
           case hk_25 =>
            rintro _ _ ⟨rfl, rfl⟩
            refine ⟨keep_nil, ?_⟩
            refine lin_nil ?_
            refine Zn [13, 2, 3, 4, 11, 12] ?_
            refine nx_cutB (e' := [(13, _)]) (H' := _) (by exact ⟨bq, trivial, rfl, rfl⟩)
           case hl_25 =>
            exact each_nil
          case hl_24 =>
           exact each_nil
         case hl_23 =>
          exact each_nil
        case hl_22 =>
         exact each_nil
       case hl_21 =>
        exact each_nil
     case hl_5 =>
      refine Zy 0 41119743 [21, 17, 14, 11] [true, true, true, true] [(21, (_, _)), (17, (_, _)), (14, (_, _)), (11, (_, _))] rfl Y rfl rfl rfl rfl (w_alloc zeroValue29 (cs := #[_, _, _, _, _, _, _]) rfl) ?hk_27 (fun _ _ h => h.elim) ?hl_27
      case hk_27 =>
       rintro _ _ ⟨bq, rfl, rfl⟩
       refine ⟨Zk (Zk (Zk (Zk (keep_nil)))), ?_⟩
       refine Zz (l := [12]) ?_
       refine Zy 4087 41123839 [21, 17, 14, 11] [true, true, true, false] [(21, (_, _)), (17, (_, _)), (14, (_, _))] rfl Y rfl rfl rfl rfl (Zu [_, _] Y call6 Y rfl (pick16 q3 12 (by decide) (by decide) hq31 hq32)) ?hk_28 (fun _ _ h => h.elim) ?hl_28
       case hk_28 =>
        rintro _ _ ⟨rfl, rfl⟩
        refine ⟨Zk (Zk (Zk (keep_nil))), ?_⟩
        refine Zz (l := [15]) ?_
        refine Zy 32759 41156607 [21, 17, 14] [true, true, false] [(21, (_, _)), (17, (_, _))] rfl Y rfl rfl rfl rfl (Zu [_, _] Y call6 Y rfl (pick16 q3 12 (by decide) (by decide) hq31 hq32)) ?hk_29 (fun _ _ h => h.elim) ?hl_29
        case hk_29 =>
         rintro _ _ ⟨rfl, rfl⟩
         refine ⟨Zk (Zk (keep_nil)), ?_⟩
         refine Zz (l := [18]) ?_
         refine Zy 262135 41418751 [21, 17] [true, false] [(21, (_, _))] rfl Y rfl rfl rfl rfl (Zu [_, _] Y call6 Y rfl (pick16 q4 12 (by decide) (by decide) hq41 hq42)) ?hk_30 (fun _ _ h => h.elim) ?hl_30
         case hk_30 =>
          rintro _ _ ⟨rfl, rfl⟩
          refine ⟨Zk (keep_nil), ?_⟩
          first | (refine lin_v (D' := 41943039) 19 (p_add_nat Y Y ?_) ?_; (focus (omega))) | (refine lin_v (D' := 41943039) 19 (p_add Y Y (IntWalk.i64_in _ ?_)) ?_; (focus (omega)))
          refine Zz (l := [23]) ?_
          refine Zy 7864311 50331647 [21] [false] [] rfl Y rfl rfl rfl rfl (Zu [_, _] Y call6 Y rfl (pick16 (q4.tdiv 12) 3 (by decide) (by decide) htd.1 htd.2)) ?hk_31 (fun _ _ h => h.elim) ?hl_31
          case hk_31 =>
           rintro _ _ ⟨rfl, rfl⟩
           refine ⟨keep_nil, ?_⟩
           refine Zi 67108863 24 rfl (p_build (vs := [(0, .int .i64 ((1 + pickN q0 7 : Nat) : Int)), (1, .int .i64 (pickN q1 3 : Int)), (2, .int .i64 (pickN q2 4 : Int)), (3, .int .i64 (pickN q3 12 : Int)), (4, .int .i64 ((pickN q3 12 + pickN q4 12 : Nat) : Int)), (5, .int .i64 2), (6, .int .i64 (pickN (q4.tdiv 12) 3 : Int))]) (cs := #[.int .i64 ((1 + pickN q0 7 : Nat) : Int), .int .i64 (pickN q1 3 : Int), .int .i64 (pickN q2 4 : Int), .int .i64 (pickN q3 12 : Int), .int .i64 ((pickN q3 12 + pickN q4 12 : Nat) : Int), .int .i64 2, .int .i64 (pickN (q4.tdiv 12) 3 : Int)]) Y (run_build_struct (pl := #[(0, 1), (1, 1), (2, 1), (3, 1), (4, 1), (5, 1), (6, 1)]) zeroValue29 underlying29 (fun _ => by kernel_rfl) (by kernel_rfl))) ?_
           refine Zz (l := [26]) ?_
           refine Zy 67108863 134217727 [] [] [] rfl Y rfl rfl rfl rfl (w_store_agg sizeOf29 Y Y (by first | (simp [Value.oneCell']; done) | (simp [Value.oneCell', Value.cells]; done)) (by repeat (first | exact Upd.here _ | apply Upd.there)) (by exact (rfl : _ = (#[.int .i64 ((1 + pickN q0 7 : Nat) : Int), .int .i64 (pickN q1 3 : Int), .int .i64 (pickN q2 4 : Int), .int .i64 (pickN q3 12 : Int), .int .i64 ((pickN q3 12 + pickN q4 12 : Nat) : Int), .int .i64 2, .int .i64 (pickN (q4.tdiv 12) 3 : Int)] : Array Value))) (by first | rfl | (simp; done)) (by first | omega | decide | (simp; done)) (by exact free_zero _)) ?hk_32 (fun _ _ h => h.elim) ?hl_32
           case hk_32 =>
            rintro _ _ ⟨rfl, rfl⟩
            refine ⟨keep_nil, ?_⟩
            refine lin_nil ?_
            refine Zn [13, 2, 3, 4, 11, 12] ?_
            refine nx_cutB (e' := [(13, _)]) (H' := _) (by exact ⟨bq, trivial, rfl, rfl⟩)
           case hl_32 =>
            exact each_nil
          case hl_31 =>
           exact each_nil
         case hl_30 =>
          exact each_nil
        case hl_29 =>
         exact each_nil
       case hl_28 =>
        exact each_nil
      case hl_27 =>
       exact each_nil
    case hl_4 =>
     refine Zy 0 41119231 [21, 17, 14, 11, 8] [true, true, true, true, true] [(21, (_, _)), (17, (_, _)), (14, (_, _)), (11, (_, _)), (8, (_, _))] rfl Y rfl rfl rfl rfl (w_alloc zeroValue29 (cs := #[_, _, _, _, _, _, _]) rfl) ?hk_34 (fun _ _ h => h.elim) ?hl_34
     case hk_34 =>
      rintro _ _ ⟨bq, rfl, rfl⟩
      refine ⟨Zk (Zk (Zk (Zk (Zk (keep_nil))))), ?_⟩
      refine Zz (l := [9]) ?_
      refine Zy 503 41119743 [21, 17, 14, 11, 8] [true, true, true, true, false] [(21, (_, _)), (17, (_, _)), (14, (_, _)), (11, (_, _))] rfl Y rfl rfl rfl rfl (Zu [_, _] Y call6 Y rfl (pick16 q2 4 (by decide) (by decide) hq21 hq22)) ?hk_35 (fun _ _ h => h.elim) ?hl_35
      case hk_35 =>
       rintro _ _ ⟨rfl, rfl⟩
       refine ⟨Zk (Zk (Zk (Zk (keep_nil)))), ?_⟩
       refine Zz (l := [12]) ?_
       refine Zy 4087 41123839 [21, 17, 14, 11] [true, true, true, false] [(21, (_, _)), (17, (_, _)), (14, (_, _))] rfl Y rfl rfl rfl rfl (Zu [_, _] Y call6 Y rfl (pick16 q3 12 (by decide) (by decide) hq31 hq32)) ?hk_36 (fun _ _ h => h.elim) ?hl_36
       case hk_36 =>
        rintro _ _ ⟨rfl, rfl⟩
        refine ⟨Zk (Zk (Zk (keep_nil))), ?_⟩
        refine Zz (l := [15]) ?_
        refine Zy 32759 41156607 [21, 17, 14] [true, true, false] [(21, (_, _)), (17, (_, _))] rfl Y rfl rfl rfl rfl (Zu [_, _] Y call6 Y rfl (pick16 q3 12 (by decide) (by decide) hq31 hq32)) ?hk_37 (fun _ _ h => h.elim) ?hl_37
        case hk_37 =>
         rintro _ _ ⟨rfl, rfl⟩
         refine ⟨Zk (Zk (keep_nil)), ?_⟩
         refine Zz (l := [18]) ?_
         refine Zy 262135 41418751 [21, 17] [true, false] [(21, (_, _))] rfl Y rfl rfl rfl rfl (Zu [_, _] Y call6 Y rfl (pick16 q4 12 (by decide) (by decide) hq41 hq42)) ?hk_38 (fun _ _ h => h.elim) ?hl_38
         case hk_38 =>
          rintro _ _ ⟨rfl, rfl⟩
          refine ⟨Zk (keep_nil), ?_⟩
          first | (refine lin_v (D' := 41943039) 19 (p_add_nat Y Y ?_) ?_; (focus (omega))) | (refine lin_v (D' := 41943039) 19 (p_add Y Y (IntWalk.i64_in _ ?_)) ?_; (focus (omega)))
          refine Zz (l := [23]) ?_
          refine Zy 7864311 50331647 [21] [false] [] rfl Y rfl rfl rfl rfl (Zu [_, _] Y call6 Y rfl (pick16 (q4.tdiv 12) 3 (by decide) (by decide) htd.1 htd.2)) ?hk_39 (fun _ _ h => h.elim) ?hl_39
          case hk_39 =>
           rintro _ _ ⟨rfl, rfl⟩
           refine ⟨keep_nil, ?_⟩
           refine Zi 67108863 24 rfl (p_build (vs := [(0, .int .i64 ((1 + pickN q0 7 : Nat) : Int)), (1, .int .i64 (pickN q1 3 : Int)), (2, .int .i64 (pickN q2 4 : Int)), (3, .int .i64 (pickN q3 12 : Int)), (4, .int .i64 ((pickN q3 12 + pickN q4 12 : Nat) : Int)), (5, .int .i64 2), (6, .int .i64 (pickN (q4.tdiv 12) 3 : Int))]) (cs := #[.int .i64 ((1 + pickN q0 7 : Nat) : Int), .int .i64 (pickN q1 3 : Int), .int .i64 (pickN q2 4 : Int), .int .i64 (pickN q3 12 : Int), .int .i64 ((pickN q3 12 + pickN q4 12 : Nat) : Int), .int .i64 2, .int .i64 (pickN (q4.tdiv 12) 3 : Int)]) Y (run_build_struct (pl := #[(0, 1), (1, 1), (2, 1), (3, 1), (4, 1), (5, 1), (6, 1)]) zeroValue29 underlying29 (fun _ => by kernel_rfl) (by kernel_rfl))) ?_
           refine Zz (l := [26]) ?_
           refine Zy 67108863 134217727 [] [] [] rfl Y rfl rfl rfl rfl (w_store_agg sizeOf29 Y Y (by first | (simp [Value.oneCell']; done) | (simp [Value.oneCell', Value.cells]; done)) (by repeat (first | exact Upd.here _ | apply Upd.there)) (by exact (rfl : _ = (#[.int .i64 ((1 + pickN q0 7 : Nat) : Int), .int .i64 (pickN q1 3 : Int), .int .i64 (pickN q2 4 : Int), .int .i64 (pickN q3 12 : Int), .int .i64 ((pickN q3 12 + pickN q4 12 : Nat) : Int), .int .i64 2, .int .i64 (pickN (q4.tdiv 12) 3 : Int)] : Array Value))) (by first | rfl | (simp; done)) (by first | omega | decide | (simp; done)) (by exact free_zero _)) ?hk_40 (fun _ _ h => h.elim) ?hl_40
           case hk_40 =>
            rintro _ _ ⟨rfl, rfl⟩
            refine ⟨keep_nil, ?_⟩
            refine lin_nil ?_
            refine Zn [13, 2, 3, 4, 11, 12] ?_
            refine nx_cutB (e' := [(13, _)]) (H' := _) (by exact ⟨bq, trivial, rfl, rfl⟩)
           case hl_40 =>
            exact each_nil
          case hl_39 =>
           exact each_nil
         case hl_38 =>
          exact each_nil
        case hl_37 =>
         exact each_nil
       case hl_36 =>
        exact each_nil
      case hl_35 =>
       exact each_nil
     case hl_34 =>
      exact each_nil
   case hl_3 =>
    refine Zy 0 41119167 [21, 17, 14, 11, 8, 5] [true, true, true, true, true, true] [(21, (_, _)), (17, (_, _)), (14, (_, _)), (11, (_, _)), (8, (_, _)), (5, (_, _))] rfl Y rfl rfl rfl rfl (w_alloc zeroValue29 (cs := #[_, _, _, _, _, _, _]) rfl) ?hk_42 (fun _ _ h => h.elim) ?hl_42
    case hk_42 =>
     rintro _ _ ⟨bq, rfl, rfl⟩
     refine ⟨Zk (Zk (Zk (Zk (Zk (Zk (keep_nil)))))), ?_⟩
     refine Zz (l := [6]) ?_
     refine Zy 55 41119231 [21, 17, 14, 11, 8, 5] [true, true, true, true, true, false] [(21, (_, _)), (17, (_, _)), (14, (_, _)), (11, (_, _)), (8, (_, _))] rfl Y rfl rfl rfl rfl (Zu [_, _] Y call6 Y rfl (pick16 q1 3 (by decide) (by decide) hq11 hq12)) ?hk_43 (fun _ _ h => h.elim) ?hl_43
     case hk_43 =>
      rintro _ _ ⟨rfl, rfl⟩
      refine ⟨Zk (Zk (Zk (Zk (Zk (keep_nil))))), ?_⟩
      refine Zz (l := [9]) ?_
      refine Zy 503 41119743 [21, 17, 14, 11, 8] [true, true, true, true, false] [(21, (_, _)), (17, (_, _)), (14, (_, _)), (11, (_, _))] rfl Y rfl rfl rfl rfl (Zu [_, _] Y call6 Y rfl (pick16 q2 4 (by decide) (by decide) hq21 hq22)) ?hk_44 (fun _ _ h => h.elim) ?hl_44
      case hk_44 =>
       rintro _ _ ⟨rfl, rfl⟩
       refine ⟨Zk (Zk (Zk (Zk (keep_nil)))), ?_⟩
       refine Zz (l := [12]) ?_
       refine Zy 4087 41123839 [21, 17, 14, 11] [true, true, true, false] [(21, (_, _)), (17, (_, _)), (14, (_, _))] rfl Y rfl rfl rfl rfl (Zu [_, _] Y call6 Y rfl (pick16 q3 12 (by decide) (by decide) hq31 hq32)) ?hk_45 (fun _ _ h => h.elim) ?hl_45
       case hk_45 =>
        rintro _ _ ⟨rfl, rfl⟩
        refine ⟨Zk (Zk (Zk (keep_nil))), ?_⟩
        refine Zz (l := [15]) ?_
        refine Zy 32759 41156607 [21, 17, 14] [true, true, false] [(21, (_, _)), (17, (_, _))] rfl Y rfl rfl rfl rfl (Zu [_, _] Y call6 Y rfl (pick16 q3 12 (by decide) (by decide) hq31 hq32)) ?hk_46 (fun _ _ h => h.elim) ?hl_46
        case hk_46 =>
         rintro _ _ ⟨rfl, rfl⟩
         refine ⟨Zk (Zk (keep_nil)), ?_⟩
         refine Zz (l := [18]) ?_
         refine Zy 262135 41418751 [21, 17] [true, false] [(21, (_, _))] rfl Y rfl rfl rfl rfl (Zu [_, _] Y call6 Y rfl (pick16 q4 12 (by decide) (by decide) hq41 hq42)) ?hk_47 (fun _ _ h => h.elim) ?hl_47
         case hk_47 =>
          rintro _ _ ⟨rfl, rfl⟩
          refine ⟨Zk (keep_nil), ?_⟩
          first | (refine lin_v (D' := 41943039) 19 (p_add_nat Y Y ?_) ?_; (focus (omega))) | (refine lin_v (D' := 41943039) 19 (p_add Y Y (IntWalk.i64_in _ ?_)) ?_; (focus (omega)))
          refine Zz (l := [23]) ?_
          refine Zy 7864311 50331647 [21] [false] [] rfl Y rfl rfl rfl rfl (Zu [_, _] Y call6 Y rfl (pick16 (q4.tdiv 12) 3 (by decide) (by decide) htd.1 htd.2)) ?hk_48 (fun _ _ h => h.elim) ?hl_48
          case hk_48 =>
           rintro _ _ ⟨rfl, rfl⟩
           refine ⟨keep_nil, ?_⟩
           refine Zi 67108863 24 rfl (p_build (vs := [(0, .int .i64 ((1 + pickN q0 7 : Nat) : Int)), (1, .int .i64 (pickN q1 3 : Int)), (2, .int .i64 (pickN q2 4 : Int)), (3, .int .i64 (pickN q3 12 : Int)), (4, .int .i64 ((pickN q3 12 + pickN q4 12 : Nat) : Int)), (5, .int .i64 2), (6, .int .i64 (pickN (q4.tdiv 12) 3 : Int))]) (cs := #[.int .i64 ((1 + pickN q0 7 : Nat) : Int), .int .i64 (pickN q1 3 : Int), .int .i64 (pickN q2 4 : Int), .int .i64 (pickN q3 12 : Int), .int .i64 ((pickN q3 12 + pickN q4 12 : Nat) : Int), .int .i64 2, .int .i64 (pickN (q4.tdiv 12) 3 : Int)]) Y (run_build_struct (pl := #[(0, 1), (1, 1), (2, 1), (3, 1), (4, 1), (5, 1), (6, 1)]) zeroValue29 underlying29 (fun _ => by kernel_rfl) (by kernel_rfl))) ?_
           refine Zz (l := [26]) ?_
           refine Zy 67108863 134217727 [] [] [] rfl Y rfl rfl rfl rfl (w_store_agg sizeOf29 Y Y (by first | (simp [Value.oneCell']; done) | (simp [Value.oneCell', Value.cells]; done)) (by repeat (first | exact Upd.here _ | apply Upd.there)) (by exact (rfl : _ = (#[.int .i64 ((1 + pickN q0 7 : Nat) : Int), .int .i64 (pickN q1 3 : Int), .int .i64 (pickN q2 4 : Int), .int .i64 (pickN q3 12 : Int), .int .i64 ((pickN q3 12 + pickN q4 12 : Nat) : Int), .int .i64 2, .int .i64 (pickN (q4.tdiv 12) 3 : Int)] : Array Value))) (by first | rfl | (simp; done)) (by first | omega | decide | (simp; done)) (by exact free_zero _)) ?hk_49 (fun _ _ h => h.elim) ?hl_49
           case hk_49 =>
            rintro _ _ ⟨rfl, rfl⟩
            refine ⟨keep_nil, ?_⟩
            refine lin_nil ?_
            refine Zn [13, 2, 3, 4, 11, 12] ?_
            refine nx_cutB (e' := [(13, _)]) (H' := _) (by exact ⟨bq, trivial, rfl, rfl⟩)
           case hl_49 =>
            exact each_nil
          case hl_48 =>
           exact each_nil
         case hl_47 =>
          exact each_nil
        case hl_46 =>
         exact each_nil
       case hl_45 =>
        exact each_nil
      case hl_44 =>
       exact each_nil
     case hl_43 =>
      exact each_nil
    case hl_42 =>
     exact each_nil
  case hl_2 =>
   refine Zy 0 41119155 [21, 17, 14, 11, 8, 5, 1] [true, true, true, true, true, true, true] [(21, (_, _)), (17, (_, _)), (14, (_, _)), (11, (_, _)), (8, (_, _)), (5, (_, _)), (1, (_, _))] rfl Y rfl rfl rfl rfl (w_alloc zeroValue29 (cs := #[_, _, _, _, _, _, _]) rfl) ?hk_51 (fun _ _ h => h.elim) ?hl_51
   case hk_51 =>
    rintro _ _ ⟨bq, rfl, rfl⟩
    refine ⟨Zk (Zk (Zk (Zk (Zk (Zk (Zk (keep_nil))))))), ?_⟩
    refine Zz (l := [2]) ?_
    refine Zy 3 41119159 [21, 17, 14, 11, 8, 5, 1] [true, true, true, true, true, true, false] [(21, (_, _)), (17, (_, _)), (14, (_, _)), (11, (_, _)), (8, (_, _)), (5, (_, _))] rfl Y rfl rfl rfl rfl (Zu [_, _] Y call6 Y rfl (pick16 q0 7 (by decide) (by decide) hq01 hq02)) ?hk_52 (fun _ _ h => h.elim) ?hl_52
    case hk_52 =>
     rintro _ _ ⟨rfl, rfl⟩
     refine ⟨Zk (Zk (Zk (Zk (Zk (Zk (keep_nil)))))), ?_⟩
     first | (refine lin_v (D' := 41119167) 3 (p_add_nat (m := 1) Y Y ?_) ?_; (focus (omega))) | (refine lin_v (D' := 41119167) 3 (p_add Y Y (IntWalk.i64_in _ ?_)) ?_; (focus (omega)))
     refine Zz (l := [6]) ?_
     refine Zy 55 41119231 [21, 17, 14, 11, 8, 5] [true, true, true, true, true, false] [(21, (_, _)), (17, (_, _)), (14, (_, _)), (11, (_, _)), (8, (_, _))] rfl Y rfl rfl rfl rfl (Zu [_, _] Y call6 Y rfl (pick16 q1 3 (by decide) (by decide) hq11 hq12)) ?hk_53 (fun _ _ h => h.elim) ?hl_53
     case hk_53 =>
      rintro _ _ ⟨rfl, rfl⟩
      refine ⟨Zk (Zk (Zk (Zk (Zk (keep_nil))))), ?_⟩
      refine Zz (l := [9]) ?_
      refine Zy 503 41119743 [21, 17, 14, 11, 8] [true, true, true, true, false] [(21, (_, _)), (17, (_, _)), (14, (_, _)), (11, (_, _))] rfl Y rfl rfl rfl rfl (Zu [_, _] Y call6 Y rfl (pick16 q2 4 (by decide) (by decide) hq21 hq22)) ?hk_54 (fun _ _ h => h.elim) ?hl_54
      case hk_54 =>
       rintro _ _ ⟨rfl, rfl⟩
       refine ⟨Zk (Zk (Zk (Zk (keep_nil)))), ?_⟩
       refine Zz (l := [12]) ?_
       refine Zy 4087 41123839 [21, 17, 14, 11] [true, true, true, false] [(21, (_, _)), (17, (_, _)), (14, (_, _))] rfl Y rfl rfl rfl rfl (Zu [_, _] Y call6 Y rfl (pick16 q3 12 (by decide) (by decide) hq31 hq32)) ?hk_55 (fun _ _ h => h.elim) ?hl_55
       case hk_55 =>
        rintro _ _ ⟨rfl, rfl⟩
        refine ⟨Zk (Zk (Zk (keep_nil))), ?_⟩
        refine Zz (l := [15]) ?_
        refine Zy 32759 41156607 [21, 17, 14] [true, true, false] [(21, (_, _)), (17, (_, _))] rfl Y rfl rfl rfl rfl (Zu [_, _] Y call6 Y rfl (pick16 q3 12 (by decide) (by decide) hq31 hq32)) ?hk_56 (fun _ _ h => h.elim) ?hl_56
        case hk_56 =>
         rintro _ _ ⟨rfl, rfl⟩
         refine ⟨Zk (Zk (keep_nil)), ?_⟩
         refine Zz (l := [18]) ?_
         refine Zy 262135 41418751 [21, 17] [true, false] [(21, (_, _))] rfl Y rfl rfl rfl rfl (Zu [_, _] Y call6 Y rfl (pick16 q4 12 (by decide) (by decide) hq41 hq42)) ?hk_57 (fun _ _ h => h.elim) ?hl_57
         case hk_57 =>
          rintro _ _ ⟨rfl, rfl⟩
          refine ⟨Zk (keep_nil), ?_⟩
          first | (refine lin_v (D' := 41943039) 19 (p_add_nat Y Y ?_) ?_; (focus (omega))) | (refine lin_v (D' := 41943039) 19 (p_add Y Y (IntWalk.i64_in _ ?_)) ?_; (focus (omega)))
          refine Zz (l := [23]) ?_
          refine Zy 7864311 50331647 [21] [false] [] rfl Y rfl rfl rfl rfl (Zu [_, _] Y call6 Y rfl (pick16 (q4.tdiv 12) 3 (by decide) (by decide) htd.1 htd.2)) ?hk_58 (fun _ _ h => h.elim) ?hl_58
          case hk_58 =>
           rintro _ _ ⟨rfl, rfl⟩
           refine ⟨keep_nil, ?_⟩
           refine Zi 67108863 24 rfl (p_build (vs := [(0, .int .i64 ((1 + pickN q0 7 : Nat) : Int)), (1, .int .i64 (pickN q1 3 : Int)), (2, .int .i64 (pickN q2 4 : Int)), (3, .int .i64 (pickN q3 12 : Int)), (4, .int .i64 ((pickN q3 12 + pickN q4 12 : Nat) : Int)), (5, .int .i64 2), (6, .int .i64 (pickN (q4.tdiv 12) 3 : Int))]) (cs := #[.int .i64 ((1 + pickN q0 7 : Nat) : Int), .int .i64 (pickN q1 3 : Int), .int .i64 (pickN q2 4 : Int), .int .i64 (pickN q3 12 : Int), .int .i64 ((pickN q3 12 + pickN q4 12 : Nat) : Int), .int .i64 2, .int .i64 (pickN (q4.tdiv 12) 3 : Int)]) Y (run_build_struct (pl := #[(0, 1), (1, 1), (2, 1), (3, 1), (4, 1), (5, 1), (6, 1)]) zeroValue29 underlying29 (fun _ => by kernel_rfl) (by kernel_rfl))) ?_
           refine Zz (l := [26]) ?_
           refine Zy 67108863 134217727 [] [] [] rfl Y rfl rfl rfl rfl (w_store_agg sizeOf29 Y Y (by first | (simp [Value.oneCell']; done) | (simp [Value.oneCell', Value.cells]; done)) (by repeat (first | exact Upd.here _ | apply Upd.there)) (by exact (rfl : _ = (#[.int .i64 ((1 + pickN q0 7 : Nat) : Int), .int .i64 (pickN q1 3 : Int), .int .i64 (pickN q2 4 : Int), .int .i64 (pickN q3 12 : Int), .int .i64 ((pickN q3 12 + pickN q4 12 : Nat) : Int), .int .i64 2, .int .i64 (pickN (q4.tdiv 12) 3 : Int)] : Array Value))) (by first | rfl | (simp; done)) (by first | omega | decide | (simp; done)) (by exact free_zero _)) ?hk_59 (fun _ _ h => h.elim) ?hl_59
           case hk_59 =>
            rintro _ _ ⟨rfl, rfl⟩
            refine ⟨keep_nil, ?_⟩
            refine lin_nil ?_
            refine Zn [13, 2, 3, 4, 11, 12] ?_
            refine nx_cutB (e' := [(13, _)]) (H' := _) (by exact ⟨bq, trivial, rfl, rfl⟩)
           case hl_59 =>
            exact each_nil
          case hl_58 =>
           exact each_nil
         case hl_57 =>
          exact each_nil
        case hl_56 =>
         exact each_nil
       case hl_55 =>
        exact each_nil
      case hl_54 =>
       exact each_nil
     case hl_53 =>
      exact each_nil
    case hl_52 =>
     exact each_nil
   case hl_51 =>
    exact each_nil
 case hy_1 =>
  rintro _ _ ⟨bq, _, rfl, rfl⟩
  refine Zb [2, 3, 4, 11, 12, 13] ?_
  refine at_cutB (e0 := []) (H0 := [[(bq, .cells #[.int .i64 ((1 + pickN q0 7 : Nat) : Int), .int .i64 (pickN q1 3 : Int), .int .i64 (pickN q2 4 : Int), .int .i64 (pickN q3 12 : Int), .int .i64 ((pickN q3 12 + pickN q4 12 : Nat) : Int), .int .i64 2, .int .i64 (pickN (q4.tdiv 12) 3 : Int)] 29 (0, 0))]]) (fun e H => ∃ (q : QM), (ValidQ q) ∧ e = [] ∧ H = [[(bq, .cells #[.int .i64 q.kd, .int .i64 q.tb, .int .i64 q.cl, .int .i64 q.lo, .int .i64 q.hi, .int .i64 q.bq, .int .i64 q.ot] 29 (0, 0))]]) (by repeat (first | exact Pull.nil _ | (apply Pull.cons; (focus (repeat (first | exact One.here _ _ | apply One.there)))))) ?hx_61 ?hy_61
  case hx_61 =>
   refine Zq <| Zg <| Zh 0 underlying29 rfl rfl sizeOf3 Y <| Zl isAgg3 Y ?_
   refine Z0 <| Zx <| at_block <| Zq <| Zg ?_
   first | refine op_v (p_eql_nat (n := 1) Y Y) ?_ | refine op_v (p_eql Y Y) ?_
   refine Za Y <| Z0 <| Zx ?_
   first | refine at_if Y (fun k1 => ?_) (fun k1 => ?_) | refine at_if_bool Y (fun k1 => ?_) (fun k1 => ?_)
   ·
    refine Zg <| Zh 1 underlying29 rfl rfl sizeOf3 Y <| Zl isAgg3 Y ?_
    refine Zh 3 underlying29 rfl rfl sizeOf3 Y <| Zl isAgg3 Y ?_
    first | (refine op_v (p_add_nat (n := 1) Y Y ?_) ?_; (focus (omega))) | (refine op_v (p_add Y Y (IntWalk.i64_in _ ?_)) ?_; (focus (omega)))
    refine Zh 3 underlying29 rfl rfl sizeOf3 Y <| Zl isAgg3 Y ?_
    first | (refine op_v (p_add_nat (n := 1) Y Y ?_) ?_; (focus (omega))) | (refine op_v (p_add Y Y (IntWalk.i64_in _ ?_)) ?_; (focus (omega)))
    refine Zv (p_build (vs := [(0, .int .i64 1), (1, .int .i64 (pickN q1 3 : Int)), (3, .int .i64 ((pickN q3 12 + 1 : Nat) : Int)), (4, .int .i64 ((pickN q3 12 + 1 : Nat) : Int))]) (cs := #[.int .i64 1, .int .i64 (pickN q1 3 : Int), .int .i64 0, .int .i64 ((pickN q3 12 + 1 : Nat) : Int), .int .i64 ((pickN q3 12 + 1 : Nat) : Int), .int .i64 0, .int .i64 0]) Y (run_build_struct (pl := #[(0, 1), (1, 1), (2, 1), (3, 1), (4, 1), (5, 1), (6, 1)]) zeroValue29 underlying29 (fun _ => by kernel_rfl) (by kernel_rfl))) ?_
    refine Ze (w_store_agg sizeOf29 Y Y (by first | (simp [Value.oneCell']; done) | (simp [Value.oneCell', Value.cells]; done)) (by repeat (first | exact Upd.here _ | apply Upd.there)) (by rfl) (by first | rfl | (simp; done)) (by first | omega | decide | (simp; done)) (by exact free_zero _)) ?_
    rintro _ _ ⟨rfl, rfl⟩
    refine Z0 <| Zn [2, 3, 4, 11, 12, 13] ?_
    refine nx_block_normal <| Zn [2, 3, 4, 11, 12, 13] ?_
    refine nx_cutB (e' := []) (H' := _) (by first | exact ⟨⟨((1 + pickN q0 7 : Nat) : Int), (pickN q1 3 : Int), (pickN q2 4 : Int), (pickN q3 12 : Int), ((pickN q3 12 + pickN q4 12 : Nat) : Int), 0, 0⟩, valid_of (by omega), rfl, rfl⟩ | exact ⟨⟨((1 + pickN q0 7 : Nat) : Int), (pickN q1 3 : Int), (pickN q2 4 : Int), (pickN q3 12 : Int), ((pickN q3 12 + pickN q4 12 : Nat) : Int), 2, (pickN (q4.tdiv 12) 3 : Int)⟩, valid_of (by omega), rfl, rfl⟩ | exact ⟨⟨((1 + pickN q0 7 : Nat) : Int), (pickN q1 3 : Int), (pickN q2 4 : Int), (pickN q3 12 : Int), ((pickN q3 12 + pickN q4 12 : Nat) : Int), 2, 0⟩, valid_of (by omega), rfl, rfl⟩ | exact ⟨⟨1, (pickN q1 3 : Int), 0, ((pickN q3 12 + 1 : Nat) : Int), ((pickN q3 12 + 1 : Nat) : Int), 0, 0⟩, valid_of (by omega), rfl, rfl⟩)
   ·
    refine Zq <| Zq <| Zg ?_
    first | refine op_v (p_eql_nat (n := 2) Y Y) ?_ | refine op_v (p_eql Y Y) ?_
    refine Za Y <| Z0 <| Zx ?_
    first | refine at_if Y (fun k2 => ?_) (fun k2 => ?_) | refine at_if_bool Y (fun k2 => ?_) (fun k2 => ?_)
    ·
     refine at_skip <| Zx ?_
     first | refine at_if Y (fun k9 => ?_) (fun k9 => ?_) | refine at_if_bool Y (fun k9 => ?_) (fun k9 => ?_)
     ·
      refine Zq <| Zg <| Zh 5 underlying29 rfl rfl sizeOf3 Y <| Ze (Zs sizeOf3 Y Y rfl (hi := by first | omega | decide | (simp; done))) ?_
      rintro _ _ ⟨rfl, rfl⟩
      refine Z0 <| Zx <| Zg <| Zh 6 underlying29 rfl rfl sizeOf3 Y <| Ze (Zs sizeOf3 Y Y rfl (hi := by first | omega | decide | (simp; done))) ?_
      rintro _ _ ⟨rfl, rfl⟩
      refine Z0 <| nx_block_normal <| Zn [2, 3, 4, 11, 12, 13] ?_
      refine nx_cutB (e' := []) (H' := _) (by first | exact ⟨⟨((1 + pickN q0 7 : Nat) : Int), (pickN q1 3 : Int), (pickN q2 4 : Int), (pickN q3 12 : Int), ((pickN q3 12 + pickN q4 12 : Nat) : Int), 0, 0⟩, valid_of (by omega), rfl, rfl⟩ | exact ⟨⟨((1 + pickN q0 7 : Nat) : Int), (pickN q1 3 : Int), (pickN q2 4 : Int), (pickN q3 12 : Int), ((pickN q3 12 + pickN q4 12 : Nat) : Int), 2, (pickN (q4.tdiv 12) 3 : Int)⟩, valid_of (by omega), rfl, rfl⟩ | exact ⟨⟨((1 + pickN q0 7 : Nat) : Int), (pickN q1 3 : Int), (pickN q2 4 : Int), (pickN q3 12 : Int), ((pickN q3 12 + pickN q4 12 : Nat) : Int), 2, 0⟩, valid_of (by omega), rfl, rfl⟩ | exact ⟨⟨1, (pickN q1 3 : Int), 0, ((pickN q3 12 + 1 : Nat) : Int), ((pickN q3 12 + 1 : Nat) : Int), 0, 0⟩, valid_of (by omega), rfl, rfl⟩)
     ·
      exact absurd k2 k9
    ·
     refine Zg ?_
     first | refine op_v (p_eql_nat (n := 3) Y Y) ?_ | refine op_v (p_eql Y Y) ?_
     refine Za Y <| Z0 <| Zx ?_
     first | refine at_if Y (fun k3 => ?_) (fun k3 => ?_) | refine at_if_bool Y (fun k3 => ?_) (fun k3 => ?_)
     ·
      refine Zq <| Zg <| Zh 5 underlying29 rfl rfl sizeOf3 Y <| Ze (Zs sizeOf3 Y Y rfl (hi := by first | omega | decide | (simp; done))) ?_
      rintro _ _ ⟨rfl, rfl⟩
      refine Z0 <| Zx <| Zg <| Zh 6 underlying29 rfl rfl sizeOf3 Y <| Ze (Zs sizeOf3 Y Y rfl (hi := by first | omega | decide | (simp; done))) ?_
      rintro _ _ ⟨rfl, rfl⟩
      refine Z0 <| nx_block_normal <| Zn [2, 3, 4, 11, 12, 13] ?_
      refine nx_cutB (e' := []) (H' := _) (by first | exact ⟨⟨((1 + pickN q0 7 : Nat) : Int), (pickN q1 3 : Int), (pickN q2 4 : Int), (pickN q3 12 : Int), ((pickN q3 12 + pickN q4 12 : Nat) : Int), 0, 0⟩, valid_of (by omega), rfl, rfl⟩ | exact ⟨⟨((1 + pickN q0 7 : Nat) : Int), (pickN q1 3 : Int), (pickN q2 4 : Int), (pickN q3 12 : Int), ((pickN q3 12 + pickN q4 12 : Nat) : Int), 2, (pickN (q4.tdiv 12) 3 : Int)⟩, valid_of (by omega), rfl, rfl⟩ | exact ⟨⟨((1 + pickN q0 7 : Nat) : Int), (pickN q1 3 : Int), (pickN q2 4 : Int), (pickN q3 12 : Int), ((pickN q3 12 + pickN q4 12 : Nat) : Int), 2, 0⟩, valid_of (by omega), rfl, rfl⟩ | exact ⟨⟨1, (pickN q1 3 : Int), 0, ((pickN q3 12 + 1 : Nat) : Int), ((pickN q3 12 + 1 : Nat) : Int), 0, 0⟩, valid_of (by omega), rfl, rfl⟩)
     ·
      refine Zq <| Zq <| Zg ?_
      first | refine op_v (p_eql_nat (n := 4) Y Y) ?_ | refine op_v (p_eql Y Y) ?_
      refine Za Y <| Z0 <| Zx ?_
      first | refine at_if Y (fun k4 => ?_) (fun k4 => ?_) | refine at_if_bool Y (fun k4 => ?_) (fun k4 => ?_)
      ·
       refine at_skip <| Zx ?_
       first | refine at_if Y (fun k9 => ?_) (fun k9 => ?_) | refine at_if_bool Y (fun k9 => ?_) (fun k9 => ?_)
       ·
        refine Zg <| Zh 6 underlying29 rfl rfl sizeOf3 Y <| Ze (Zs sizeOf3 Y Y rfl (hi := by first | omega | decide | (simp; done))) ?_
        rintro _ _ ⟨rfl, rfl⟩
        refine Z0 <| nx_block_normal <| Zn [2, 3, 4, 11, 12, 13] ?_
        refine nx_cutB (e' := []) (H' := _) (by first | exact ⟨⟨((1 + pickN q0 7 : Nat) : Int), (pickN q1 3 : Int), (pickN q2 4 : Int), (pickN q3 12 : Int), ((pickN q3 12 + pickN q4 12 : Nat) : Int), 0, 0⟩, valid_of (by omega), rfl, rfl⟩ | exact ⟨⟨((1 + pickN q0 7 : Nat) : Int), (pickN q1 3 : Int), (pickN q2 4 : Int), (pickN q3 12 : Int), ((pickN q3 12 + pickN q4 12 : Nat) : Int), 2, (pickN (q4.tdiv 12) 3 : Int)⟩, valid_of (by omega), rfl, rfl⟩ | exact ⟨⟨((1 + pickN q0 7 : Nat) : Int), (pickN q1 3 : Int), (pickN q2 4 : Int), (pickN q3 12 : Int), ((pickN q3 12 + pickN q4 12 : Nat) : Int), 2, 0⟩, valid_of (by omega), rfl, rfl⟩ | exact ⟨⟨1, (pickN q1 3 : Int), 0, ((pickN q3 12 + 1 : Nat) : Int), ((pickN q3 12 + 1 : Nat) : Int), 0, 0⟩, valid_of (by omega), rfl, rfl⟩)
       ·
        exact absurd k4 k9
      ·
       refine Zq <| Zg ?_
       first | refine op_v (p_eql_nat (n := 5) Y Y) ?_ | refine op_v (p_eql Y Y) ?_
       refine Za Y <| Z0 <| Zx ?_
       first | refine at_if Y (fun k5 => ?_) (fun k5 => ?_) | refine at_if_bool Y (fun k5 => ?_) (fun k5 => ?_)
       ·
        refine at_skip <| Zx ?_
        first | refine at_if Y (fun k9 => ?_) (fun k9 => ?_) | refine at_if_bool Y (fun k9 => ?_) (fun k9 => ?_)
        ·
         refine Zg <| Zh 6 underlying29 rfl rfl sizeOf3 Y <| Ze (Zs sizeOf3 Y Y rfl (hi := by first | omega | decide | (simp; done))) ?_
         rintro _ _ ⟨rfl, rfl⟩
         refine Z0 <| Zn [2, 3, 4, 11, 12, 13] ?_
         refine nx_block_normal <| Zn [2, 3, 4, 11, 12, 13] ?_
         refine nx_cutB (e' := []) (H' := _) (by first | exact ⟨⟨((1 + pickN q0 7 : Nat) : Int), (pickN q1 3 : Int), (pickN q2 4 : Int), (pickN q3 12 : Int), ((pickN q3 12 + pickN q4 12 : Nat) : Int), 0, 0⟩, valid_of (by omega), rfl, rfl⟩ | exact ⟨⟨((1 + pickN q0 7 : Nat) : Int), (pickN q1 3 : Int), (pickN q2 4 : Int), (pickN q3 12 : Int), ((pickN q3 12 + pickN q4 12 : Nat) : Int), 2, (pickN (q4.tdiv 12) 3 : Int)⟩, valid_of (by omega), rfl, rfl⟩ | exact ⟨⟨((1 + pickN q0 7 : Nat) : Int), (pickN q1 3 : Int), (pickN q2 4 : Int), (pickN q3 12 : Int), ((pickN q3 12 + pickN q4 12 : Nat) : Int), 2, 0⟩, valid_of (by omega), rfl, rfl⟩ | exact ⟨⟨1, (pickN q1 3 : Int), 0, ((pickN q3 12 + 1 : Nat) : Int), ((pickN q3 12 + 1 : Nat) : Int), 0, 0⟩, valid_of (by omega), rfl, rfl⟩)
        ·
         exact absurd k5 k9
       ·
        refine Zg ?_
        first | refine op_v (p_eql_nat (n := 6) Y Y) ?_ | refine op_v (p_eql Y Y) ?_
        refine Za Y <| Z0 <| Zn [2, 3, 4, 11, 12, 13, 82] ?_
        refine Zx ?_
        first | refine at_if Y (fun k6 => ?_) (fun k6 => ?_) | refine at_if_bool Y (fun k6 => ?_) (fun k6 => ?_)
        ·
         refine Zg <| Zh 6 underlying29 rfl rfl sizeOf3 Y <| Ze (Zs sizeOf3 Y Y rfl (hi := by first | omega | decide | (simp; done))) ?_
         rintro _ _ ⟨rfl, rfl⟩
         refine Z0 <| nx_block_normal <| Zn [2, 3, 4, 11, 12, 13] ?_
         refine nx_cutB (e' := []) (H' := _) (by first | exact ⟨⟨((1 + pickN q0 7 : Nat) : Int), (pickN q1 3 : Int), (pickN q2 4 : Int), (pickN q3 12 : Int), ((pickN q3 12 + pickN q4 12 : Nat) : Int), 0, 0⟩, valid_of (by omega), rfl, rfl⟩ | exact ⟨⟨((1 + pickN q0 7 : Nat) : Int), (pickN q1 3 : Int), (pickN q2 4 : Int), (pickN q3 12 : Int), ((pickN q3 12 + pickN q4 12 : Nat) : Int), 2, (pickN (q4.tdiv 12) 3 : Int)⟩, valid_of (by omega), rfl, rfl⟩ | exact ⟨⟨((1 + pickN q0 7 : Nat) : Int), (pickN q1 3 : Int), (pickN q2 4 : Int), (pickN q3 12 : Int), ((pickN q3 12 + pickN q4 12 : Nat) : Int), 2, 0⟩, valid_of (by omega), rfl, rfl⟩ | exact ⟨⟨1, (pickN q1 3 : Int), 0, ((pickN q3 12 + 1 : Nat) : Int), ((pickN q3 12 + 1 : Nat) : Int), 0, 0⟩, valid_of (by omega), rfl, rfl⟩)
        ·
         refine at_skip <| nx_block_normal <| Zn [2, 3, 4, 11, 12, 13] ?_
         refine nx_cutB (e' := []) (H' := _) (by first | exact ⟨⟨((1 + pickN q0 7 : Nat) : Int), (pickN q1 3 : Int), (pickN q2 4 : Int), (pickN q3 12 : Int), ((pickN q3 12 + pickN q4 12 : Nat) : Int), 0, 0⟩, valid_of (by omega), rfl, rfl⟩ | exact ⟨⟨((1 + pickN q0 7 : Nat) : Int), (pickN q1 3 : Int), (pickN q2 4 : Int), (pickN q3 12 : Int), ((pickN q3 12 + pickN q4 12 : Nat) : Int), 2, (pickN (q4.tdiv 12) 3 : Int)⟩, valid_of (by omega), rfl, rfl⟩ | exact ⟨⟨((1 + pickN q0 7 : Nat) : Int), (pickN q1 3 : Int), (pickN q2 4 : Int), (pickN q3 12 : Int), ((pickN q3 12 + pickN q4 12 : Nat) : Int), 2, 0⟩, valid_of (by omega), rfl, rfl⟩ | exact ⟨⟨1, (pickN q1 3 : Int), 0, ((pickN q3 12 + 1 : Nat) : Int), ((pickN q3 12 + 1 : Nat) : Int), 0, 0⟩, valid_of (by omega), rfl, rfl⟩)
  case hy_61 =>
   rintro _ _ ⟨q, hq, rfl, rfl⟩
   refine Zq <| Zg <| Zm Y <| Zm Y <| Zv (p_len_slice underlying25 Y) ?_
   first | (refine op_v (p_add_nat (n := 1) Y Y ?_) ?_; (focus (omega))) | (refine op_v (p_add Y Y (IntWalk.i64_in _ ?_)) ?_; (focus (omega)))
   refine Zr [_, _] Y call6 Y rfl (pick16 be (l.length + 1) (by omega) (by omega) hbe1 hbe2) ?_
   rintro _ _ ⟨rfl, rfl⟩
   obtain ⟨a9, ha9⟩ : ∃ n, n = pickN be (l.length + 1) := ⟨_, rfl⟩
   rw [← ha9]
   have hba9 := pickN_lt be (l.length + 1) (by omega)
   refine Za Y <| Z0 <| Zx <| Zq <| Zg <| Zm Y <| Zm Y <| Zm Y <| Zv (p_len_slice underlying25 Y) <| Zm Y ?_
   first | (refine op_v (p_sub_nat Y Y ?_ ?_) ?_; (focus (omega)); (focus (omega))) | (refine op_v (p_sub Y Y (IntWalk.i64_in _ ?_)) ?_; (focus (omega)))
   first | (refine op_v (p_add_nat (n := 1) Y Y ?_) ?_; (focus (omega))) | (refine op_v (p_add Y Y (IntWalk.i64_in _ ?_)) ?_; (focus (omega)))
   refine Zr [_, _] Y call6 Y rfl (pick16 ar (l.length - a9 + 1) (by omega) (by omega) har1 har2) ?_
   rintro _ _ ⟨rfl, rfl⟩
   obtain ⟨d9, hd9⟩ : ∃ n, n = pickN ar (l.length - a9 + 1) := ⟨_, rfl⟩
   rw [← hd9]
   have hbd9 := pickN_lt ar (l.length - a9 + 1) (by omega)
   first | (refine op_v (p_add_nat Y Y ?_) ?_; (focus (omega))) | (refine op_v (p_add Y Y (IntWalk.i64_in _ ?_)) ?_; (focus (omega)))
   refine Za Y <| Z0 <| Zn [3, 11, 12, 13, 14, 15] ?_
   refine Zx <| Zq <| Zg <| Zm Y <| Zm Y <| Zm Y <| Zm Y ?_
   first | (refine op_v (p_sub_nat Y Y ?_ ?_) ?_; (focus (omega)); (focus (omega))) | (refine op_v (p_sub Y Y (IntWalk.i64_in _ ?_)) ?_; (focus (omega)))
   first | (refine op_v (p_add_nat (n := 1) Y Y ?_) ?_; (focus (omega))) | (refine op_v (p_add Y Y (IntWalk.i64_in _ ?_)) ?_; (focus (omega)))
   refine Zr [_, _] Y call6 Y rfl (pick16 ba (a9 + d9 - a9 + 1) (by omega) (by omega) hba1 hba2) ?_
   rintro _ _ ⟨rfl, rfl⟩
   obtain ⟨e9, he9⟩ : ∃ n, n = pickN ba (a9 + d9 - a9 + 1) := ⟨_, rfl⟩
   rw [← he9]
   have hbe9 := pickN_lt ba (a9 + d9 - a9 + 1) (by omega)
   first | (refine op_v (p_add_nat Y Y ?_) ?_; (focus (omega))) | (refine op_v (p_add Y Y (IntWalk.i64_in _ ?_)) ?_; (focus (omega)))
   refine Za Y <| Z0 <| Zx <| Zq <| Zg <| Zc [] Y call7 Y rfl (lnew_spec) ?_
   rintro _ _ ⟨_, ⟨tp, mb, rfl, rfl⟩, rfl⟩
   refine Za Y <| Z0 <| Zx <| Zq <| Zg <| Zm Y <| Zc [_, _, _] Y call8 Y rfl (lask_spec ⟨#[113]⟩ 0 0 (mapM_new _) rfl (by decide) (by decide)) ?_
   rintro _ _ ⟨_, ⟨lp, es, ck, lm, rfl, hm, hp, rfl⟩, rfl⟩
   have hg := mget_mem hm.keys ((hp _).2 (.inl rfl))
   refine Zm Y <| Zd Y rfl <| Zd Y rfl <| Za Y <| Za Y <| Z0 <| Zn [11, 12, 13, 14, 15, 16, 17, 18, 19] ?_
   refine Zx <| Zq <| Zq <| Zg <| Zm Y <| Za Y <| Z0 <| Zx <| at_block <| Zb [20, 11, 12, 13, 15, 16, 17, 18, 19] ?_
   refine at_loopB (e0 := [(20, _)]) (H0 := _) (n := _) (fun m e H => ∃ (i : Nat) (bar : Int), m = a9 + d9 - i ∧ ((a9 ≤ i ∧ i ≤ a9 + d9) ∧ Barred l q a9 i bar) ∧ e = [(20, .int .i64 (i : Int))] ∧ H = [[(lp, .cells #[.int .i64 (0 + 1), .int .i64 0, .int .i64 bar] 75 (0, 0))]]) (by exact ⟨a9, 0, rfl, ⟨⟨Nat.le_refl _, Nat.le_add_right _ _⟩, barred_zero _ _ _ _⟩, rfl, rfl⟩) (by repeat (first | exact Pull.nil _ | (apply Pull.cons; (focus (repeat (first | exact One.here _ _ | apply One.there)))))) ?_
   rintro _ _ _ ⟨i, bar, rfl, ⟨hi, hbar⟩, rfl, rfl⟩
   refine Zq <| Zq <| Zg <| Zm Y <| Zm Y ?_
   first | refine op_v (p_lss_nat Y Y) ?_ | refine op_v (p_lss Y Y) ?_
   refine Z0 <| Zx ?_
   first | refine at_if Y (fun hlt => ?_) (fun hlt => ?_) | refine at_if_bool Y (fun hlt => ?_) (fun hlt => ?_)
   ·
    obtain ⟨x3, hx3⟩ : ∃ x, l[i]? = some x := ⟨_, List.getElem?_eq_getElem (by omega)⟩
    have hA3 := (hlog i x3 hx3).1
    have hxp := hA3.pos
    obtain ⟨xp, xq, xcap, xcs⟩ := x3
    obtain ⟨hO3, g, off, cur, T, zz, rfl, hm9, hsz9, hex9⟩ := hgl _ _ hx3
    change ChgsIn _ (.slice xq xcs.length xcap) xcs at hO3
    change cur.extract _ _ = #[.int .i64 xp, .slice xq xcs.length xcap] at hex9
    change xp = _ at hxp
    obtain ⟨pc, capc, hvc, hcl, hgc⟩ := id hO3
    injection hvc with hv1 hv2 hv3
    subst hv1 hv3
    refine at_skip <| Zx <| Zq <| at_block <| Zq <| Zg <| Za Y <| Z0 <| Zx <| Zq <| Zq <| Zg <| Za Y <| Z0 <| Zx <| at_block <| Zb [21, 22, 11, 12, 13, 15, 16, 17, 18, 19, 20] ?_
    refine at_loopB (e0 := [(21, _), (22, _)]) (H0 := _) (n := _) (fun m e H => ∃ (k : Nat), m = xcs.length - k ∧ (k ≤ xcs.length) ∧ e = [(21, .bool ((xcs.take k).any (touchQ q))), (22, .int .i64 (k : Int))] ∧ H = []) (by exact ⟨0, rfl, Nat.zero_le _, rfl, rfl⟩) (by repeat (first | exact Pull.nil _ | (apply Pull.cons; (focus (repeat (first | exact One.here _ _ | apply One.there)))))) ?_
    rintro _ _ _ ⟨k, rfl, hk, rfl, rfl⟩
    refine Zq <| Zq <| Zg <| Zm Y <| Zm Y <| Zm Y ?_
    (refine op_v (p_indexAddr_nat underlying25 sizeOf36 Y Y ?_) ?_; (focus (first | omega | decide | (simp; done))))
    refine Zv (p_fieldAddr1 (off := 1) underlying36 rfl rfl sizeOf34 Y) <| op_rm (cs := [(g, .cells cur T zz)]) (by simp [hm9]) (p_load isAgg34 Y (ext_at (j := 1) hex9 rfl)) rfl rfl ?_
    refine Zv (p_len_slice underlying34 Y) ?_
    first | refine op_v (p_lss_nat Y Y) ?_ | refine op_v (p_lss Y Y) ?_
    refine Z0 <| Zx ?_
    first | refine at_if Y (fun hkt => ?_) (fun hkt => ?_) | refine at_if_bool Y (fun hkt => ?_) (fun hkt => ?_)
    ·
     obtain ⟨y, hy⟩ : ∃ y, xcs[k]? = some y := ⟨_, List.getElem?_eq_getElem hkt⟩
     have hyo := hA3.ok.all k y hy
     obtain ⟨g2, off2, cur2, T2, zz2, rfl, hm2, hsz2, hex2⟩ := hgc k y hy
     refine at_skip <| Zx <| Zq <| at_block <| Zq <| at_draw (n := 11) (0 :: 0 :: 0 :: 6 :: 14 :: 30 :: 0 :: 126 :: 254 :: 511 :: 1023 :: []) 512 (by kernel_rfl) (by kernel_rfl) rfl ?_
     refine lin_r (D' := 1) 0 rfl rfl rfl (by repeat (first | exact Has.here _ | apply Has.there)) (p_load_agg (cs := #[_, _, _, _, _, _, _]) isAgg29 sizeOf29 Y (by first | omega | decide | (simp; done)) (by rfl)) ?_
     refine Zi 3 1 rfl (p_move Y) <| Zi 7 2 rfl (p_move Y) ?_
     (refine lin_v (D' := 15) 3 (p_indexAddr_nat underlying25 sizeOf36 Y Y ?_) ?_; (focus (first | omega | decide | (simp; done))))
     refine Zi 31 4 rfl (p_fieldAddr1 (off := 1) underlying36 rfl rfl sizeOf34 Y) <| lin_rm (b := g) (x := .cells cur T zz) (D' := 63) 5 rfl rfl rfl (by simp [hm9]) (p_load isAgg34 Y (ext_at (j := 1) hex9 rfl)) ?_
     refine Zi 127 6 rfl (p_move Y) ?_
     (refine lin_v (D' := 255) 7 (p_indexAddr_nat underlying34 sizeOf40 Y Y ?_) ?_; (focus (first | omega | decide | (simp; done))))
     refine lin_rm (b := g2) (x := .cells cur2 T2 zz2) (D' := 511) 8 rfl rfl rfl (by simp [hm2]) (p_load_agg (cs := #[.int .i64 y.t, .int .i64 y.k, .bool y.had, .int .i64 y.o.a, .int .i64 y.o.b, .int .i64 y.o.c, .bool y.has, .int .i64 y.n.a, .int .i64 y.n.b, .int .i64 y.n.c]) isAgg40 sizeOf40 Y (by omega) hex2) ?_
     refine Zz (l := [9]) ?_
     refine Zy 511 1023 [8, 5, 0] [false, false, false] [] rfl Y rfl rfl rfl rfl (Zu [_, _] Y call9 Y rfl (touches_spec q y)) ?hk_71 (fun _ _ h => h.elim) ?hl_71
     case hk_71 =>
      rintro _ _ ⟨rfl, rfl⟩
      refine ⟨keep_nil, ?_⟩
      rw [show (decide (ValidQ q) && (decide y.ok && touchQ q y)) = touchQ q y by rw [decide_eq_true hq, decide_eq_true hyo]; rfl]
      refine Zi 2047 10 rfl (p_assign Y) <| lin_nil ?_
      refine Zn [11, 12, 13, 15, 16, 17, 18, 19, 20, 21, 22, 23] ?_
      refine Zx <| Zg <| Zm Y <| Zm Y ?_
      refine ops_split_bool (t := 142) Y rfl (fun h1 => ?_) (fun h1 => ?_)
      ·
       have e9 : (xcs.take (k + 1)).any (touchQ q) = true := by rw [any_snoc _ hy, h1]; rfl
       refine op_skip Y rfl <| Zv (p_pick_t Y Y) <| Za Y <| Z0 <| nx_block_normal <| Zx <| Zg <| Zm Y ?_
       first | (refine op_v (p_add_nat (n := 1) Y Y ?_) ?_; (focus (omega))) | (refine op_v (p_add Y Y (IntWalk.i64_in _ ?_)) ?_; (focus (omega)))
       refine Za Y <| Z0 <| Zn [21, 22, 11, 12, 13, 15, 16, 17, 18, 19, 20] ?_
       refine nx_againB (e' := [(21, _), (22, _)]) (m := _) (H' := _) (by exact ⟨k + 1, rfl, by omega, by rw [e9], rfl⟩)
      ·
       have e9 : (xcs.take (k + 1)).any (touchQ q) = touchQ q y := by rw [any_snoc _ hy, h1]; rfl
       refine Zf Y Y <| Zv (p_pick_f Y Y) <| Za Y <| Z0 <| nx_block_normal <| Zx <| Zg <| Zm Y ?_
       first | (refine op_v (p_add_nat (n := 1) Y Y ?_) ?_; (focus (omega))) | (refine op_v (p_add Y Y (IntWalk.i64_in _ ?_)) ?_; (focus (omega)))
       refine Za Y <| Z0 <| Zn [21, 22, 11, 12, 13, 15, 16, 17, 18, 19, 20] ?_
       refine nx_againB (e' := [(21, _), (22, _)]) (m := _) (H' := _) (by exact ⟨k + 1, rfl, by omega, by rw [e9], rfl⟩)
     case hl_71 =>
      exact each_nil
    ·
     have ek : k = xcs.length := by omega
     subst ek
     rw [List.take_length]
     refine at_exit <| Zt <| Zt <| nx_block_exit <| Zx <| Zq <| Zg <| Zm Y <| Z0 <| Zx ?_
     refine at_if_bool Y (fun hto => ?_) (fun hto => ?_)
     ·
      refine Zg <| Zm Y <| Zm Y <| Zm Y ?_
      (refine op_v (p_indexAddr_nat underlying25 sizeOf36 Y Y ?_) ?_; (focus (first | omega | decide | (simp; done))))
      refine Zv (p_fieldAddr1 (off := 0) underlying36 rfl rfl sizeOf3 Y) <| op_rm (cs := [(g, .cells cur T zz)]) (by simp [hm9]) (p_load isAgg3 Y (ext_at (j := 0) hex9 rfl)) rfl rfl ?_
      refine Zc [_, _, _] Y call10 Y rfl (linv_spec ⟨#[113]⟩ (0 + 1) xp (0 + 1) 0 bar lp hm hg) ?_
      rintro _ _ ⟨_, ⟨rfl, rfl⟩, rfl⟩
      refine Z0 <| Zn [11, 12, 13, 15, 16, 17, 18, 19, 20] ?_
      refine nx_block_normal <| Zx <| Zg <| Zm Y ?_
      first | (refine op_v (p_add_nat (n := 1) Y Y ?_) ?_; (focus (omega))) | (refine op_v (p_add Y Y (IntWalk.i64_in _ ?_)) ?_; (focus (omega)))
      refine Za Y <| Z0 <| Zn [20, 11, 12, 13, 15, 16, 17, 18, 19] ?_
      refine nx_againB (e' := [(20, _)]) (m := _) (H' := _) (by first | exact ⟨i + 1, bar, rfl, ⟨by omega, barred_keep hbar hx3 (by simpa using hto)⟩, rfl, rfl⟩ | exact ⟨i + 1, max bar xp, rfl, ⟨by omega, barred_touch hbar hxp⟩, rfl, rfl⟩)
     ·
      refine at_skip <| nx_block_normal <| Zx <| Zg <| Zm Y ?_
      first | (refine op_v (p_add_nat (n := 1) Y Y ?_) ?_; (focus (omega))) | (refine op_v (p_add Y Y (IntWalk.i64_in _ ?_)) ?_; (focus (omega)))
      refine Za Y <| Z0 <| Zn [20, 11, 12, 13, 15, 16, 17, 18, 19] ?_
      refine nx_againB (e' := [(20, _)]) (m := _) (H' := _) (by first | exact ⟨i + 1, bar, rfl, ⟨by omega, barred_keep hbar hx3 (by simpa using hto)⟩, rfl, rfl⟩ | exact ⟨i + 1, max bar xp, rfl, ⟨by omega, barred_touch hbar hxp⟩, rfl, rfl⟩)
   ·
    have ei : i = a9 + d9 := by omega
    subst ei
    refine at_exit <| Zt <| Zt <| nx_block_exit <| Zx <| Zq <| Zq <| Zg <| Zm Y ?_
    first | refine op_v (p_not_dec Y) ?_ | refine op_v (p_not Y) ?_
    refine Z0 <| Zx ?_
    refine at_if_bool Y (fun k1 => ?_) (fun k1 => ?_)
    ·
     cases k1
    ·
     refine at_skip <| Zx <| Zq <| Zq <| Zg <| Zm Y <| Zm Y <| Zm Y <| Zc [_, _, _, _] Y call11 Y rfl (lfill_spec ⟨#[113]⟩ (0 + 1) ((a9 + e9 : Nat) : Int) (0 + 1) 0 bar lp hm hg) ?_
     rintro _ _ ⟨_, ⟨es9, ck9, rfl, rfl⟩, rfl⟩
     first | refine op_v (p_not_dec Y) ?_ | refine op_v (p_not Y) ?_
     refine Z0 <| Zx ?_
     first | refine at_if Y (fun hfil => ?_) (fun hfil => ?_) | refine at_if_bool Y (fun hfil => ?_) (fun hfil => ?_)
     ·
      refine Zq <| Zg <| Zm Y <| Za Y <| Z0 <| Zx <| at_ret <| Zt ?_
      refine nx_end1 rfl results3 Y (by exact ⟨rfl, rfl⟩)
     ·
      have hfl : bar ≤ ((a9 + e9 : Nat) : Int) := by first | exact Classical.not_not.1 hfil | simpa using hfil
      have heq := eval_log hlog hq (a9 + e9) (a9 + d9) (by omega) (by omega) (barred_out hbar (by omega) hfl)
      refine at_skip <| Zx <| Zq <| Zg <| Zm Y <| Zm Y <| Zc [_, _] Y call12 Y rfl (st_at pl capl l sl hRI hlog (by omega) (a9 + e9) (by omega)) ?_
      rintro _ _ ⟨_, ⟨sp1, mm1, esx1, ckx1, lmx1, rfl, hmx1, hRx1, rfl⟩, rfl⟩
      obtain ⟨hs1, hn1⟩ := hlog.rows (a9 + e9) (by omega)
      have hok1 := hlog.rowsOk (a9 + e9) (by omega)
      have hst1 : StIs (.pointer (some ⟨sp1, 0, none⟩)) ((a9 + e9) : Int) (rowsOf (l.take (a9 + e9))) [(sp1, .cells #[.map (some mm1), .int .i64 ((a9 + e9) : Int)] 108 (0, 0)), (mm1, .map esx1 ckx1)] := ⟨sp1, mm1, esx1, ckx1, lmx1, rfl, hmx1, hRx1, hs1, hn1, rfl⟩
      refine Zm Y <| Zd Y rfl <| Zd Y rfl <| Za Y <| Za Y <| Z0 <| Zn [11, 12, 13, 15, 24, 25] ?_
      refine Zx <| Zq <| at_join (s1 := [(sp1, _)]) (s2 := [(mm1, _)]) (by repeat (first | exact One.here _ _ | apply One.there)) (by repeat (first | exact One.here _ _ | apply One.there)) ?_
      refine Zg <| Zm Y <| Zm Y <| Zc [_, _] Y call12 Y rfl (st_at pl capl l sl hRI hlog (by omega) (a9 + d9) (by omega)) ?_
      rintro _ _ ⟨_, ⟨sp2, mm2, esx2, ckx2, lmx2, rfl, hmx2, hRx2, rfl⟩, rfl⟩
      obtain ⟨hs2, hn2⟩ := hlog.rows (a9 + d9) (by omega)
      have hok2 := hlog.rowsOk (a9 + d9) (by omega)
      have hst2 : StIs (.pointer (some ⟨sp2, 0, none⟩)) ((a9 + d9) : Int) (rowsOf (l.take (a9 + d9))) [(sp2, .cells #[.map (some mm2), .int .i64 ((a9 + d9) : Int)] 108 (0, 0)), (mm2, .map esx2 ckx2)] := ⟨sp2, mm2, esx2, ckx2, lmx2, rfl, hmx2, hRx2, hs2, hn2, rfl⟩
      refine Zm Y <| Zd Y rfl <| Zd Y rfl <| Za Y <| Za Y <| Z0 <| Zx <| Zq <| Zq <| at_join (s1 := [(sp2, _)]) (s2 := [(mm2, _)]) (by repeat (first | exact One.here _ _ | apply One.there)) (by repeat (first | exact One.here _ _ | apply One.there)) ?_
      refine Zg <| Zm Y ?_
      first | refine op_v (p_neq_nat (n := 0) Y Y) ?_ | refine op_v (p_neq Y Y) ?_
      refine Zm Y ?_
      first | refine ops_split (t := 175) Y rfl (fun k2 => ?_) (fun k2 => ?_) | refine ops_split_bool (t := 175) Y rfl (fun k2 => ?_) (fun k2 => ?_)
      ·
       exact absurd rfl k2
      ·
       refine Zf Y Y ?_
       first | refine op_wg Y (p_neq_nat (n := 0) Y Y) rfl rfl ?_ | refine op_wg Y (p_neq Y Y) rfl rfl ?_
       refine Zv (p_pick_f Y Y) <| Z0 <| Zn [11, 13, 24, 26, 178] ?_
       refine Zx ?_
       first | refine at_if Y (fun k3 => ?_) (fun k3 => ?_) | refine at_if_bool Y (fun k3 => ?_) (fun k3 => ?_)
       ·
        exact absurd rfl k3
       ·
        refine at_skip <| Zx <| Zq <| Zg <| Zm Y <| Zo (by repeat (first | exact Has.here _ | apply Has.there)) (p_load_agg (cs := #[_, _, _, _, _, _, _]) isAgg29 sizeOf29 Y (by first | decide | exact Nat.le_refl _ | (simp; done) | (simp; omega)) (by rfl)) ?_
        refine Zc [_, _] Y call13 Y rfl (of_spec _ _ (rowsOf (l.take (a9 + e9))) _ hst1 hok1 q hq) ?_
        rintro _ _ ⟨_, ⟨rv1, sr1, rfl, hrv1, rfl⟩, rfl⟩
        obtain ⟨gv1, cv1, rfl⟩ := hrv1.form
        have hU1 := rowsU_row hrv1 (by have := eval_len (rowsOf (l.take (a9 + e9))) q; omega)
        refine Zm Y <| Zd Y rfl <| Zd Y rfl <| Ze (w_alloc zeroValue49 (cs := #[_, _, _]) rfl) ?_
        rintro _ _ ⟨b1, rfl, rfl⟩
        refine Ze (w_store_agg sizeOf49 Y Y (by first | (simp [Value.oneCell']; done) | (simp [Value.oneCell', Value.cells]; done)) (by repeat (first | exact Upd.here _ | apply Upd.there)) (by exact (rfl : _ = (#[.slice gv1 (evalT (rowsOf (l.take (a9 + e9))) q).rows.length cv1, .int .i64 (evalT (rowsOf (l.take (a9 + e9))) q).val, .bool (evalT (rowsOf (l.take (a9 + e9))) q).fnd] : Array Value))) (by first | rfl | (simp; done)) (by first | decide | exact Nat.le_refl _ | (simp; done) | (simp; omega)) (by exact free_zero _)) ?_
        rintro _ _ ⟨rfl, rfl⟩
        refine Za Y <| Z0 <| Zx <| Zq <| Zg <| Zm Y <| Zo (by repeat (first | exact Has.here _ | apply Has.there)) (p_load_agg (cs := #[_, _, _, _, _, _, _]) isAgg29 sizeOf29 Y (by first | decide | exact Nat.le_refl _ | (simp; done) | (simp; omega)) (by rfl)) ?_
        refine Zc [_, _] Y call13 Y rfl (of_spec _ _ (rowsOf (l.take (a9 + d9))) _ hst2 hok2 q hq) ?_
        rintro _ _ ⟨_, ⟨rv2, sr2, rfl, hrv2, rfl⟩, rfl⟩
        obtain ⟨gv2, cv2, rfl⟩ := hrv2.form
        have hU2 := rowsU_row hrv2 (by have := eval_len (rowsOf (l.take (a9 + d9))) q; omega)
        refine Zm Y <| Zd Y rfl <| Zd Y rfl <| Ze (w_alloc zeroValue49 (cs := #[_, _, _]) rfl) ?_
        rintro _ _ ⟨b2, rfl, rfl⟩
        refine Ze (w_store_agg sizeOf49 Y Y (by first | (simp [Value.oneCell']; done) | (simp [Value.oneCell', Value.cells]; done)) (by repeat (first | exact Upd.here _ | apply Upd.there)) (by exact (rfl : _ = (#[.slice gv2 (evalT (rowsOf (l.take (a9 + d9))) q).rows.length cv2, .int .i64 (evalT (rowsOf (l.take (a9 + d9))) q).val, .bool (evalT (rowsOf (l.take (a9 + d9))) q).fnd] : Array Value))) (by first | rfl | (simp; done)) (by first | decide | exact Nat.le_refl _ | (simp; done) | (simp; omega)) (by exact free_zero _)) ?_
        rintro _ _ ⟨rfl, rfl⟩
        refine Za Y <| Z0 <| Zn [11, 28, 29, 30, 31] ?_
        refine Zx <| Zq <| Zg <| Zm Y <| Zm Y ?_
        refine ops_split_bool (t := 192) Y rfl (fun k4 => ?_) (fun k4 => ?_)
        ·
         refine Zf Y Y ?_
         first | refine op_wg Y (p_eql_nat (n := 0) Y Y) rfl rfl ?_ | refine op_wg Y (p_eql Y Y) rfl rfl ?_
         refine Zv (p_pick_t Y Y) <| Zm Y ?_
         first | refine ops_split (t := 196) Y rfl (fun k5 => ?_) (fun k5 => ?_) | refine ops_split_bool (t := 196) Y rfl (fun k5 => ?_) (fun k5 => ?_)
         ·
          refine Zf Y Y ?_
          first | refine op_wg Y (p_eql_nat (n := 0) Y Y) rfl rfl ?_ | refine op_wg Y (p_eql Y Y) rfl rfl ?_
          refine Zv (p_pick_t Y Y) <| Zm Y ?_
          first | refine ops_split (t := 200) Y rfl (fun k6 => ?_) (fun k6 => ?_) | refine ops_split_bool (t := 200) Y rfl (fun k6 => ?_) (fun k6 => ?_)
          ·
           refine op_rg Y (by repeat (first | exact Has.here _ | apply Has.there)) (p_load_agg (cs := #[_, _, _]) isAgg49 sizeOf49 Y (by first | omega | decide | (simp; done)) (by rfl)) rfl rfl ?_
           refine op_rg Y (by repeat (first | exact Has.here _ | apply Has.there)) (p_load_agg (cs := #[_, _, _]) isAgg49 sizeOf49 Y (by first | omega | decide | (simp; done)) (by rfl)) rfl rfl ?_
           refine Zr [_, _] Y call14 Y rfl (esame_two hU1 hU2) ?_
           rintro _ _ ⟨rfl, rfl⟩
           rw [decide_eq_true heq.symm]
           refine Zv (p_pick_t Y Y) <| Za Y <| Z0 <| Zn [10] ?_
           refine Zx <| at_ret ?_
           refine nx_end1 rfl results3 Y (by exact ⟨rfl, rfl⟩)
          ·
           exact absurd rfl k6
         ·
          exact absurd rfl k5
        ·
         cases k4

end Go.Proofs.YtkgmgmkbgnkdnaaGreat
