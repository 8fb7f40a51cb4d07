/- query.Valid. -/
import Derived.Test.YtkgmgmkbgnkdnaaGreatEz
import Derived.Test.YtkgmgmkbgnkdnaaGreatQe1
import Derived.Test.YtkgmgmkbgnkdnaaGreatEx26

namespace Go.Proofs.YtkgmgmkbgnkdnaaGreat
open Go.Proofs.Tryz
open Go Go.RowKit Gw
set_option linter.unusedVariables false
set_option linter.unusedSimpArgs false
set_option maxRecDepth 100000
attribute [local irreducible] Gw.At Gw.Nx Gw.Ops
def BaseQ (q : QM) : Prop := (0 ≤ q.tb ∧ q.tb ≤ 3) ∧ (0 ≤ q.cl ∧ q.cl ≤ 3) ∧ (-1000000000 ≤ q.lo ∧ q.lo ≤ q.hi ∧ q.hi ≤ 1000000000)
instance (q : QM) : Decidable (BaseQ q) := by unfold BaseQ; infer_instance
def Agg1 (q : QM) : Prop := 1 ≤ q.bq ∧ q.bq ≤ 3
instance (q : QM) : Decidable (Agg1 q) := by unfold Agg1; infer_instance
theorem val_1 {q : QM} (h : q.kd = 1) : ValidQ q ↔ BaseQ q ∧ q.cl = 0 ∧ q.lo = q.hi ∧ (1 ≤ q.lo ∧ q.lo ≤ 1000000) ∧ q.bq = 0 ∧ q.ot = 0 := by unfold ValidQ BaseQ; omega
theorem val_2 {q : QM} (h : q.kd = 2 ∨ q.kd = 3) : ValidQ q ↔ BaseQ q ∧ q.bq = 0 ∧ q.ot = 0 := by unfold ValidQ BaseQ; omega
theorem val_4 {q : QM} (h : q.kd = 4 ∨ q.kd = 5 ∨ q.kd = 6) : ValidQ q ↔ BaseQ q ∧ Agg1 q ∧ q.ot = 0 := by unfold ValidQ BaseQ Agg1; omega
theorem val_7 {q : QM} (h : q.kd = 7) : ValidQ q ↔ BaseQ q ∧ (0 ≤ q.ot ∧ q.ot ≤ 3) ∧ Agg1 q := by unfold ValidQ BaseQ Agg1; omega
theorem dec_1 {q : QM} (h : q.kd = 1) : decide (ValidQ q) = decide (BaseQ q ∧ q.cl = 0 ∧ q.lo = q.hi ∧ (1 ≤ q.lo ∧ q.lo ≤ 1000000) ∧ q.bq = 0 ∧ q.ot = 0) := decide_eq_decide.2 (val_1 h)
theorem dec_2 {q : QM} (h : q.kd = 2 ∨ q.kd = 3) : decide (ValidQ q) = decide (BaseQ q ∧ q.bq = 0 ∧ q.ot = 0) := decide_eq_decide.2 (val_2 h)
theorem dec_4 {q : QM} (h : q.kd = 4 ∨ q.kd = 5 ∨ q.kd = 6) : decide (ValidQ q) = decide (BaseQ q ∧ Agg1 q ∧ q.ot = 0) := decide_eq_decide.2 (val_4 h)
theorem dec_7 {q : QM} (h : q.kd = 7) : decide (ValidQ q) = decide (BaseQ q ∧ (0 ≤ q.ot ∧ q.ot ≤ 3) ∧ Agg1 q) := decide_eq_decide.2 (val_7 h)
theorem val_0 {q : QM} (h : ¬ q.kd = 1) (h7 : ¬ q.kd = 7) (h4 : ¬ q.kd = 4) (h5 : ¬ q.kd = 5) (h6 : ¬ q.kd = 6) (h2 : ¬ q.kd = 2) (h3 : ¬ q.kd = 3) : ¬ ValidQ q := by unfold ValidQ; omega

theorem in_4 {q : QM} {b0 : Bool} (h : q.kd = 4 ∨ q.kd = 5 ∨ q.kd = 6) (hb0 : b0 = decide (BaseQ q)) : ((b0 && decide (Agg1 q)) && decide (q.ot = 0)) = decide (ValidQ q) := by
  rw [dec_4 h, hb0]; simp [Bool.and_assoc]
theorem in_2 {q : QM} {b0 : Bool} (h : q.kd = 2 ∨ q.kd = 3) (hb0 : b0 = decide (BaseQ q)) : ((b0 && decide (q.bq = 0)) && decide (q.ot = 0)) = decide (ValidQ q) := by
  rw [dec_2 h, hb0]; simp [Bool.and_assoc]
theorem in_7t {q : QM} {b0 : Bool} (h : q.kd = 7) (hb0 : b0 = decide (BaseQ q)) (e0 : b0 = true) : ((decide (0 ≤ q.ot ∧ q.ot ≤ 3) && decide (Agg1 q)) && decide ((0 : Int) = 0)) = decide (ValidQ q) := by
  have hB : BaseQ q := of_decide_eq_true (hb0.symm.trans e0)
  rw [dec_7 h]; simp [hB]
theorem in_7f {q : QM} {b0 x y : Bool} (h : q.kd = 7) (hb0 : b0 = decide (BaseQ q)) (e0 : b0 = false) : ((false && x) && y) = decide (ValidQ q) := by
  have hB : ¬ BaseQ q := of_decide_eq_false (hb0.symm.trans e0)
  rw [dec_7 h]; simp [hB]
theorem in_t {q : QM} {b : Bool} {z : Int} (hb : ((b && decide (Agg1 q)) && decide (z = 0)) = decide (ValidQ q)) (e : b = true) : ((decide (1 ≤ q.bq ∧ q.bq ≤ 3) && decide ((0 : Int) = 0)) && decide (z = 0)) = decide (ValidQ q) := by
  rw [← hb, e, show decide (Agg1 q) = decide (1 ≤ q.bq ∧ q.bq ≤ 3) from decide_eq_decide.2 Iff.rfl]; simp only [Bool.true_and, decide_true, Bool.and_true]
theorem in_f {q : QM} {b x y : Bool} {z : Int} (hb : ((b && decide (Agg1 q)) && decide (z = 0)) = decide (ValidQ q)) (e : b = false) : ((false && x) && y) = decide (ValidQ q) := by
  rw [← hb, e]; simp

theorem q_within (n lo hi : Int) : DoesR Tryz.prog 39 #[.int .i64 n, .int .i64 lo, .int .i64 hi] [] (.bool (decide (lo ≤ n ∧ n ≤ hi))) := by
 refine spec_enter func39 rfl ntmps39 rfl ?_
 intro u R
 refine Zb [0, 1, 2] ?_
 refine Zq <| Zg <| Za Y <| Z0 <| Zx <| Zq <| Zg <| Zm Y <| Zm Y ?_
 first | refine op_v (p_geq_nat Y Y) ?_ | refine op_v (p_geq Y Y) ?_
 refine Zm Y ?_
 first | refine ops_split (t := 10) Y rfl (fun h1 => ?_) (fun h1 => ?_) | refine ops_split_bool (t := 10) Y rfl (fun h1 => ?_) (fun h1 => ?_)
 ·
  refine Zf Y Y <| Zf Y Y ?_
  first | refine op_wg Y (p_leq_nat Y Y) rfl rfl ?_ | refine op_wg Y (p_leq Y Y) rfl rfl ?_
  refine Zv (p_pick_t Y Y) <| Za Y <| Z0 <| Zx <| at_ret ?_
  refine nx_end1 rfl results39 Y (by exact ⟨by simp [h1], rfl⟩)
 ·
  refine op_skip Y rfl <| op_skip Y rfl <| op_skip Y rfl <| Zv (p_pick_f Y Y) <| Za Y <| Z0 <| Zx <| at_ret ?_
  refine nx_end1 rfl results39 Y (by exact ⟨by simp [h1], rfl⟩)

theorem q_valid (q : QM) : DoesR Tryz.prog 24 #[.agg #[.int .i64 q.kd, .int .i64 q.tb, .int .i64 q.cl, .int .i64 q.lo, .int .i64 q.hi, .int .i64 q.bq, .int .i64 q.ot]] [] (.bool (decide (ValidQ q))) := by
 refine spec_enter func24 rfl ntmps24 rfl ?_
 intro u R
 refine Zb [0] ?_
 refine Zq <| Zg <| Ze (w_box Y (cs := #[_, _, _, _, _, _, _]) rfl) ?_
 rintro _ _ ⟨pb, rfl, rfl⟩
 refine Za Y <| Z0 <| Zx <| Zb [1] ?_
 refine at_cutB (e0 := []) (H0 := []) (fun e H => ∃ (b0 : Bool), (b0 = decide (BaseQ q)) ∧ e = [(3, .bool b0)] ∧ H = []) (by repeat (first | exact Pull.nil _ | (apply Pull.cons; (focus (repeat (first | exact One.here _ _ | apply One.there)))))) ?hx_1 ?hy_1
 case hx_1 =>
  refine Zg <| Zh 1 underlying29 rfl rfl sizeOf3 Y <| Zl isAgg3 Y ?_
  refine Zr [_, _, _] Y call39 Y rfl (q_within _ _ _) ?_
  rintro _ _ ⟨rfl, rfl⟩
  refine Zm Y ?_
  first | refine ops_split (t := 7) Y rfl (fun a1 => ?_) (fun a1 => ?_) | refine ops_split_bool (t := 7) Y rfl (fun a1 => ?_) (fun a1 => ?_)
  ·
   refine Yf 2 underlying29 rfl rfl sizeOf3 Y <| Yl isAgg3 Y ?_
   refine Zr [_, _, _] Y call39 Y rfl (q_within _ _ _) ?_
   rintro _ _ ⟨rfl, rfl⟩
   refine Zv (p_pick_t Y Y) <| Zm Y ?_
   first | refine ops_split (t := 12) Y rfl (fun a2 => ?_) (fun a2 => ?_) | refine ops_split_bool (t := 12) Y rfl (fun a2 => ?_) (fun a2 => ?_)
   ·
    refine Yf 3 underlying29 rfl rfl sizeOf3 Y <| Yl isAgg3 Y ?_
    refine Yf 4 underlying29 rfl rfl sizeOf3 Y <| Yl isAgg3 Y ?_
    refine Zr [_, _, _] Y call39 Y rfl (q_within _ _ _) ?_
    rintro _ _ ⟨rfl, rfl⟩
    refine Zv (p_pick_t Y Y) <| Zm Y ?_
    first | refine ops_split (t := 19) Y rfl (fun a3 => ?_) (fun a3 => ?_) | refine ops_split_bool (t := 19) Y rfl (fun a3 => ?_) (fun a3 => ?_)
    ·
     refine Yf 4 underlying29 rfl rfl sizeOf3 Y <| Yl isAgg3 Y ?_
     first | refine op_wg Y (p_leq_nat (n := 1000000000) Y Y) rfl rfl ?_ | refine op_wg Y (p_leq Y Y) rfl rfl ?_
     refine Zv (p_pick_t Y Y) <| Za Y <| Z0 <| Zn [3, 1] ?_
     refine nx_cutB (e' := [(3, _)]) (H' := _) (by exact ⟨_, by unfold BaseQ; first | exact decide_eq_decide.2 (by omega) | exact (decide_eq_false (by omega)).symm, rfl, rfl⟩)
    ·
     refine op_skip Y rfl <| op_skip Y rfl <| op_skip Y rfl <| Zv (p_pick_f Y Y) <| Za Y <| Z0 <| Zn [3, 1] ?_
     refine nx_cutB (e' := [(3, _)]) (H' := _) (by exact ⟨_, by unfold BaseQ; first | exact decide_eq_decide.2 (by omega) | exact (decide_eq_false (by omega)).symm, rfl, rfl⟩)
   ·
    refine op_skip Y rfl <| op_skip Y rfl <| op_skip Y rfl <| op_skip Y rfl <| op_skip Y rfl <| Zv (p_pick_f Y Y) <| Zm Y <| op_skip Y rfl <| op_skip Y rfl <| op_skip Y rfl <| Zv (p_pick_f Y Y) <| Za Y <| Z0 <| Zn [3, 1] ?_
    refine nx_cutB (e' := [(3, _)]) (H' := _) (by exact ⟨_, by unfold BaseQ; first | exact decide_eq_decide.2 (by omega) | exact (decide_eq_false (by omega)).symm, rfl, rfl⟩)
  ·
   refine op_skip Y rfl <| op_skip Y rfl <| op_skip Y rfl <| Zv (p_pick_f Y Y) <| Zm Y <| op_skip Y rfl <| op_skip Y rfl <| op_skip Y rfl <| op_skip Y rfl <| op_skip Y rfl <| Zv (p_pick_f Y Y) <| Zm Y <| op_skip Y rfl <| op_skip Y rfl <| op_skip Y rfl <| Zv (p_pick_f Y Y) <| Za Y <| Z0 <| Zn [3, 1] ?_
   refine nx_cutB (e' := [(3, _)]) (H' := _) (by exact ⟨_, by unfold BaseQ; first | exact decide_eq_decide.2 (by omega) | exact (decide_eq_false (by omega)).symm, rfl, rfl⟩)
 case hy_1 =>
  rintro _ _ ⟨b0, hb0, rfl, rfl⟩
  refine Zq <| Zq <| Zg <| Zh 0 underlying29 rfl rfl sizeOf3 Y <| Zl isAgg3 Y ?_
  refine Z0 <| Zx <| at_block <| Zb [3, 25, 1] ?_
  refine at_cutB (e0 := [(3, _), (25, _)]) (H0 := [[(pb, _)]]) (fun e H => ∃ (b : Bool) (y z : Int), (((b && decide (y = 0)) && decide (z = 0)) = decide (ValidQ q)) ∧ e = [(3, .bool b)] ∧ H = [[(pb, .cells #[.int .i64 q.kd, .int .i64 q.tb, .int .i64 q.cl, .int .i64 q.lo, .int .i64 q.hi, .int .i64 y, .int .i64 z] 29 (0, 0))]]) (by repeat (first | exact Pull.nil _ | (apply Pull.cons; (focus (repeat (first | exact One.here _ _ | apply One.there)))))) ?hx_6 ?hy_6
  case hx_6 =>
   refine at_block <| Zb [3, 25, 1] ?_
   refine at_cutB (e0 := [(3, _), (25, _)]) (H0 := [[(pb, _)]]) (fun e H => ∃ (b : Bool) (z : Int), (((b && decide (Agg1 q)) && decide (z = 0)) = decide (ValidQ q)) ∧ e = [(3, .bool b)] ∧ H = [[(pb, .cells #[.int .i64 q.kd, .int .i64 q.tb, .int .i64 q.cl, .int .i64 q.lo, .int .i64 q.hi, .int .i64 q.bq, .int .i64 z] 29 (0, 0))]]) (by repeat (first | exact Pull.nil _ | (apply Pull.cons; (focus (repeat (first | exact One.here _ _ | apply One.there)))))) ?hx_7 ?hy_7
   case hx_7 =>
    refine at_block <| Zq <| at_block <| Zq <| at_block <| Zq <| Zq <| Zq <| Zg ?_
    first | refine op_v (p_eql_nat (n := 1) Y Y) ?_ | refine op_v (p_eql Y Y) ?_
    refine Za Y <| Z0 <| Zx ?_
    first | refine at_if Y (fun k1 => ?_) (fun k1 => ?_) | refine at_if_bool Y (fun k1 => ?_) (fun k1 => ?_)
    ·
     refine at_exit <| Zt <| Zt <| nx_block_exit <| Zx <| Zq <| Zq <| Zg <| Zm Y <| Zm Y ?_
     refine ops_split_bool (t := 38) Y rfl (fun c0 => ?_) (fun c0 => ?_)
     ·
      have hB : BaseQ q := of_decide_eq_true (hb0.symm.trans c0)
      refine Yf 2 underlying29 rfl rfl sizeOf3 Y <| Yl isAgg3 Y ?_
      first | refine op_wg Y (p_eql_nat (n := 0) Y Y) rfl rfl ?_ | refine op_wg Y (p_eql Y Y) rfl rfl ?_
      refine Zv (p_pick_t Y Y) <| Zm Y ?_
      first | refine ops_split (t := 43) Y rfl (fun c1 => ?_) (fun c1 => ?_) | refine ops_split_bool (t := 43) Y rfl (fun c1 => ?_) (fun c1 => ?_)
      ·
       refine Yf 3 underlying29 rfl rfl sizeOf3 Y <| Yl isAgg3 Y ?_
       refine Yf 4 underlying29 rfl rfl sizeOf3 Y <| Yl isAgg3 Y ?_
       first | refine op_wg Y (p_eql_nat Y Y) rfl rfl ?_ | refine op_wg Y (p_eql Y Y) rfl rfl ?_
       refine Zv (p_pick_t Y Y) <| Zm Y ?_
       first | refine ops_split (t := 50) Y rfl (fun c2 => ?_) (fun c2 => ?_) | refine ops_split_bool (t := 50) Y rfl (fun c2 => ?_) (fun c2 => ?_)
       ·
        refine Yf 3 underlying29 rfl rfl sizeOf3 Y <| Yl isAgg3 Y ?_
        refine Zr [_, _, _] Y call39 Y rfl (q_within _ _ _) ?_
        rintro _ _ ⟨rfl, rfl⟩
        refine Zv (p_pick_t Y Y) <| Zm Y ?_
        first | refine ops_split (t := 55) Y rfl (fun c3 => ?_) (fun c3 => ?_) | refine ops_split_bool (t := 55) Y rfl (fun c3 => ?_) (fun c3 => ?_)
        ·
         refine Yf 5 underlying29 rfl rfl sizeOf3 Y <| Yl isAgg3 Y ?_
         first | refine op_wg Y (p_eql_nat (n := 0) Y Y) rfl rfl ?_ | refine op_wg Y (p_eql Y Y) rfl rfl ?_
         refine Zv (p_pick_t Y Y) <| Zm Y ?_
         first | refine ops_split (t := 60) Y rfl (fun c4 => ?_) (fun c4 => ?_) | refine ops_split_bool (t := 60) Y rfl (fun c4 => ?_) (fun c4 => ?_)
         ·
          refine Yf 6 underlying29 rfl rfl sizeOf3 Y <| Yl isAgg3 Y ?_
          first | refine op_wg Y (p_eql_nat (n := 0) Y Y) rfl rfl ?_ | refine op_wg Y (p_eql Y Y) rfl rfl ?_
          refine Zv (p_pick_t Y Y) <| Za Y <| Z0 <| Zn [2] ?_
          refine Zx <| at_ret <| Zt <| nx_block_ret <| Zt <| nx_block_ret <| Zt <| nx_block_ret <| Zt <| nx_block_ret <| Zt ?_
          refine nx_end1 rfl results24 Y (by exact ⟨by rw [dec_1 k1]; first | exact congrArg Value.bool (decide_eq_decide.2 ⟨fun h => ⟨hB, by omega⟩, fun h => by omega⟩) | exact congrArg Value.bool (decide_eq_false (fun h => by first | exact hB h.1 | omega)).symm, rfl⟩)
         ·
          refine op_skip Y rfl <| op_skip Y rfl <| op_skip Y rfl <| Zv (p_pick_f Y Y) <| Za Y <| Z0 <| Zn [2] ?_
          refine Zx <| at_ret <| Zt <| nx_block_ret <| Zt <| nx_block_ret <| Zt <| nx_block_ret <| Zt <| nx_block_ret <| Zt ?_
          refine nx_end1 rfl results24 Y (by exact ⟨by rw [dec_1 k1]; first | exact congrArg Value.bool (decide_eq_decide.2 ⟨fun h => ⟨hB, by omega⟩, fun h => by omega⟩) | exact congrArg Value.bool (decide_eq_false (fun h => by first | exact hB h.1 | omega)).symm, rfl⟩)
        ·
         refine op_skip Y rfl <| op_skip Y rfl <| op_skip Y rfl <| Zv (p_pick_f Y Y) <| Zm Y <| op_skip Y rfl <| op_skip Y rfl <| op_skip Y rfl <| Zv (p_pick_f Y Y) <| Za Y <| Z0 <| Zn [2] ?_
         refine Zx <| at_ret <| Zt <| nx_block_ret <| Zt <| nx_block_ret <| Zt <| nx_block_ret <| Zt <| nx_block_ret <| Zt ?_
         refine nx_end1 rfl results24 Y (by exact ⟨by rw [dec_1 k1]; first | exact congrArg Value.bool (decide_eq_decide.2 ⟨fun h => ⟨hB, by omega⟩, fun h => by omega⟩) | exact congrArg Value.bool (decide_eq_false (fun h => by first | exact hB h.1 | omega)).symm, rfl⟩)
       ·
        refine op_skip Y rfl <| op_skip Y rfl <| op_skip Y rfl <| Zv (p_pick_f Y Y) <| Zm Y <| op_skip Y rfl <| op_skip Y rfl <| op_skip Y rfl <| Zv (p_pick_f Y Y) <| Zm Y <| op_skip Y rfl <| op_skip Y rfl <| op_skip Y rfl <| Zv (p_pick_f Y Y) <| Za Y <| Z0 <| Zn [2] ?_
        refine Zx <| at_ret <| Zt <| nx_block_ret <| Zt <| nx_block_ret <| Zt <| nx_block_ret <| Zt <| nx_block_ret <| Zt ?_
        refine nx_end1 rfl results24 Y (by exact ⟨by rw [dec_1 k1]; first | exact congrArg Value.bool (decide_eq_decide.2 ⟨fun h => ⟨hB, by omega⟩, fun h => by omega⟩) | exact congrArg Value.bool (decide_eq_false (fun h => by first | exact hB h.1 | omega)).symm, rfl⟩)
      ·
       refine op_skip Y rfl <| op_skip Y rfl <| op_skip Y rfl <| op_skip Y rfl <| op_skip Y rfl <| Zv (p_pick_f Y Y) <| Zm Y <| op_skip Y rfl <| op_skip Y rfl <| op_skip Y rfl <| Zv (p_pick_f Y Y) <| Zm Y <| op_skip Y rfl <| op_skip Y rfl <| op_skip Y rfl <| Zv (p_pick_f Y Y) <| Zm Y <| op_skip Y rfl <| op_skip Y rfl <| op_skip Y rfl <| Zv (p_pick_f Y Y) <| Za Y <| Z0 <| Zn [2] ?_
       refine Zx <| at_ret <| Zt <| nx_block_ret <| Zt <| nx_block_ret <| Zt <| nx_block_ret <| Zt <| nx_block_ret <| Zt ?_
       refine nx_end1 rfl results24 Y (by exact ⟨by rw [dec_1 k1]; first | exact congrArg Value.bool (decide_eq_decide.2 ⟨fun h => ⟨hB, by omega⟩, fun h => by omega⟩) | exact congrArg Value.bool (decide_eq_false (fun h => by first | exact hB h.1 | omega)).symm, rfl⟩)
     ·
      have hB : ¬ BaseQ q := of_decide_eq_false (hb0.symm.trans c0)
      refine op_skip Y rfl <| op_skip Y rfl <| op_skip Y rfl <| Zv (p_pick_f Y Y) <| Zm Y <| op_skip Y rfl <| op_skip Y rfl <| op_skip Y rfl <| op_skip Y rfl <| op_skip Y rfl <| Zv (p_pick_f Y Y) <| Zm Y <| op_skip Y rfl <| op_skip Y rfl <| op_skip Y rfl <| Zv (p_pick_f Y Y) <| Zm Y <| op_skip Y rfl <| op_skip Y rfl <| op_skip Y rfl <| Zv (p_pick_f Y Y) <| Zm Y <| op_skip Y rfl <| op_skip Y rfl ?_
      refine op_skip Y rfl <| Zv (p_pick_f Y Y) <| Za Y <| Z0 <| Zn [2] ?_
      refine Zx <| at_ret <| Zt <| nx_block_ret <| Zt <| nx_block_ret <| Zt <| nx_block_ret <| Zt <| nx_block_ret <| Zt ?_
      refine nx_end1 rfl results24 Y (by exact ⟨by rw [dec_1 k1]; first | exact congrArg Value.bool (decide_eq_decide.2 ⟨fun h => ⟨hB, by omega⟩, fun h => by omega⟩) | exact congrArg Value.bool (decide_eq_false (fun h => by first | exact hB h.1 | omega)).symm, rfl⟩)
    ·
     refine at_skip <| Zx <| Zq <| Zq <| Zg ?_
     first | refine op_v (p_eql_nat (n := 7) Y Y) ?_ | refine op_v (p_eql Y Y) ?_
     refine Za Y <| Z0 <| Zx ?_
     first | refine at_if Y (fun k7 => ?_) (fun k7 => ?_) | refine at_if_bool Y (fun k7 => ?_) (fun k7 => ?_)
     ·
      refine at_exit <| Zt <| Zt <| nx_block_other rfl <| Zt <| nx_block_exit <| Zx <| Zq <| Zg <| Zm Y <| Zm Y ?_
      refine ops_split_bool (t := 66) Y rfl (fun e0 => ?_) (fun e0 => ?_)
      ·
       refine Yf 6 underlying29 rfl rfl sizeOf3 Y <| Yl isAgg3 Y ?_
       refine Zr [_, _, _] Y call39 Y rfl (q_within _ _ _) ?_
       rintro _ _ ⟨rfl, rfl⟩
       refine Zv (p_pick_t Y Y) <| Za Y <| Z0 <| Zx <| Zg <| Zh 6 underlying29 rfl rfl sizeOf3 Y <| Ze (Zs sizeOf3 Y Y rfl) ?_
       rintro _ _ ⟨rfl, rfl⟩
       refine Z0 <| Zn [1, 3] ?_
       refine nx_block_normal <| Zn [3, 1] ?_
       refine nx_cutB (e' := [(3, _)]) (H' := _) (by first | exact ⟨_, _, in_7t k7 hb0 e0, rfl, rfl⟩ | exact ⟨_, 0, in_7f k7 hb0 e0, rfl, rfl⟩ | exact ⟨_, _, in_4 (by omega) hb0, rfl, rfl⟩)
      ·
       refine op_skip Y rfl <| op_skip Y rfl <| op_skip Y rfl <| Zv (p_pick_f Y Y) <| Za Y <| Z0 <| Zx <| Zg <| Zh 6 underlying29 rfl rfl sizeOf3 Y <| Ze (Zs sizeOf3 Y Y rfl) ?_
       rintro _ _ ⟨rfl, rfl⟩
       refine Z0 <| Zn [1, 3] ?_
       refine nx_block_normal <| Zn [3, 1] ?_
       refine nx_cutB (e' := [(3, _)]) (H' := _) (by first | exact ⟨_, _, in_7t k7 hb0 e0, rfl, rfl⟩ | exact ⟨_, 0, in_7f k7 hb0 e0, rfl, rfl⟩ | exact ⟨_, _, in_4 (by omega) hb0, rfl, rfl⟩)
     ·
      refine at_skip <| Zx <| Zq <| Zq <| Zq <| Zg ?_
      first | refine op_v (p_eql_nat (n := 4) Y Y) ?_ | refine op_v (p_eql Y Y) ?_
      refine Za Y <| Z0 <| Zx ?_
      first | refine at_if Y (fun k4 => ?_) (fun k4 => ?_) | refine at_if_bool Y (fun k4 => ?_) (fun k4 => ?_)
      ·
       refine at_skip <| Zx ?_
       first | refine at_if Y (fun k4 => ?_) (fun k4 => ?_) | refine at_if_bool Y (fun k4 => ?_) (fun k4 => ?_)
       ·
        refine at_exit <| Zt <| Zt <| nx_block_other rfl <| Zt <| nx_block_other rfl <| Zt <| nx_block_exit <| Zn [3, 1] ?_
        refine nx_cutB (e' := [(3, _)]) (H' := _) (by first | exact ⟨_, _, in_7t k7 hb0 e0, rfl, rfl⟩ | exact ⟨_, 0, in_7f k7 hb0 e0, rfl, rfl⟩ | exact ⟨_, _, in_4 (by omega) hb0, rfl, rfl⟩)
       ·
        refine at_skip <| Zx <| Zq <| Zq <| Zg ?_
        first | refine op_v (p_eql_nat (n := 2) Y Y) ?_ | refine op_v (p_eql Y Y) ?_
        refine Za Y <| Z0 <| Zx ?_
        first | refine at_if Y (fun k2 => ?_) (fun k2 => ?_) | refine at_if_bool Y (fun k2 => ?_) (fun k2 => ?_)
        ·
         refine at_skip <| Zx ?_
         first | refine at_if Y (fun k2 => ?_) (fun k2 => ?_) | refine at_if_bool Y (fun k2 => ?_) (fun k2 => ?_)
         ·
          refine at_exit <| Zt <| nx_block_other rfl <| Zt <| nx_block_other rfl <| Zt <| nx_block_other rfl <| Zt <| nx_block_exit <| Zn [3, 1] ?_
          refine nx_cutB (e' := [(3, _)]) (H' := _) (by first | exact ⟨_, _, _, in_t hb f0, rfl, rfl⟩ | exact ⟨_, 0, z, in_f hb f0, rfl, rfl⟩ | exact ⟨_, _, _, in_2 (by omega) hb0, rfl, rfl⟩)
         ·
          refine at_skip <| Zx <| at_exit <| nx_block_other rfl <| Zt <| nx_block_other rfl <| Zt <| nx_block_other rfl <| Zt <| nx_block_other rfl <| Zt <| nx_block_exit <| Zx <| Zq <| Zg <| Za Y <| Z0 <| Zx <| at_ret ?_
          refine nx_end1 rfl results24 Y (by exact ⟨congrArg Value.bool (decide_eq_false (val_0 k1 k7 (by omega) (by omega) (by omega) (by omega) (by omega))).symm, rfl⟩)
        ·
         refine Zg ?_
         first | refine op_v (p_eql_nat (n := 3) Y Y) ?_ | refine op_v (p_eql Y Y) ?_
         refine Za Y <| Z0 <| Zx ?_
         first | refine at_if Y (fun k2 => ?_) (fun k2 => ?_) | refine at_if_bool Y (fun k2 => ?_) (fun k2 => ?_)
         ·
          refine at_exit <| Zt <| nx_block_other rfl <| Zt <| nx_block_other rfl <| Zt <| nx_block_other rfl <| Zt <| nx_block_exit <| Zn [3, 1] ?_
          refine nx_cutB (e' := [(3, _)]) (H' := _) (by first | exact ⟨_, _, _, in_t hb f0, rfl, rfl⟩ | exact ⟨_, 0, z, in_f hb f0, rfl, rfl⟩ | exact ⟨_, _, _, in_2 (by omega) hb0, rfl, rfl⟩)
         ·
          refine at_skip <| Zx <| at_exit <| nx_block_other rfl <| Zt <| nx_block_other rfl <| Zt <| nx_block_other rfl <| Zt <| nx_block_other rfl <| Zt <| nx_block_exit <| Zx <| Zq <| Zg <| Za Y <| Z0 <| Zx <| at_ret ?_
          refine nx_end1 rfl results24 Y (by exact ⟨congrArg Value.bool (decide_eq_false (val_0 k1 k7 (by omega) (by omega) (by omega) (by omega) (by omega))).symm, rfl⟩)
      ·
       refine Zq <| Zg ?_
       first | refine op_v (p_eql_nat (n := 5) Y Y) ?_ | refine op_v (p_eql Y Y) ?_
       refine Za Y <| Z0 <| Zx ?_
       first | refine at_if Y (fun k4 => ?_) (fun k4 => ?_) | refine at_if_bool Y (fun k4 => ?_) (fun k4 => ?_)
       ·
        refine at_skip <| Zx ?_
        first | refine at_if Y (fun k4 => ?_) (fun k4 => ?_) | refine at_if_bool Y (fun k4 => ?_) (fun k4 => ?_)
        ·
         refine at_exit <| Zt <| Zt <| nx_block_other rfl <| Zt <| nx_block_other rfl <| Zt <| nx_block_exit <| Zn [3, 1] ?_
         refine nx_cutB (e' := [(3, _)]) (H' := _) (by first | exact ⟨_, _, in_7t k7 hb0 e0, rfl, rfl⟩ | exact ⟨_, 0, in_7f k7 hb0 e0, rfl, rfl⟩ | exact ⟨_, _, in_4 (by omega) hb0, rfl, rfl⟩)
        ·
         refine at_skip <| Zx <| Zq <| Zq <| Zg ?_
         first | refine op_v (p_eql_nat (n := 2) Y Y) ?_ | refine op_v (p_eql Y Y) ?_
         refine Za Y <| Z0 <| Zx ?_
         first | refine at_if Y (fun k2 => ?_) (fun k2 => ?_) | refine at_if_bool Y (fun k2 => ?_) (fun k2 => ?_)
         ·
          refine at_skip <| Zx ?_
          first | refine at_if Y (fun k2 => ?_) (fun k2 => ?_) | refine at_if_bool Y (fun k2 => ?_) (fun k2 => ?_)
          ·
           refine at_exit <| Zt <| nx_block_other rfl <| Zt <| nx_block_other rfl <| Zt <| nx_block_other rfl <| Zt <| nx_block_exit <| Zn [3, 1] ?_
           refine nx_cutB (e' := [(3, _)]) (H' := _) (by first | exact ⟨_, _, _, in_t hb f0, rfl, rfl⟩ | exact ⟨_, 0, z, in_f hb f0, rfl, rfl⟩ | exact ⟨_, _, _, in_2 (by omega) hb0, rfl, rfl⟩)
          ·
           refine at_skip <| Zx <| at_exit <| nx_block_other rfl <| Zt <| nx_block_other rfl <| Zt <| nx_block_other rfl <| Zt <| nx_block_other rfl <| Zt <| nx_block_exit <| Zx <| Zq <| Zg <| Za Y <| Z0 <| Zx <| at_ret ?_
           refine nx_end1 rfl results24 Y (by exact ⟨congrArg Value.bool (decide_eq_false (val_0 k1 k7 (by omega) (by omega) (by omega) (by omega) (by omega))).symm, rfl⟩)
         ·
          refine Zg ?_
          first | refine op_v (p_eql_nat (n := 3) Y Y) ?_ | refine op_v (p_eql Y Y) ?_
          refine Za Y <| Z0 <| Zx ?_
          first | refine at_if Y (fun k2 => ?_) (fun k2 => ?_) | refine at_if_bool Y (fun k2 => ?_) (fun k2 => ?_)
          ·
           refine at_exit <| Zt <| nx_block_other rfl <| Zt <| nx_block_other rfl <| Zt <| nx_block_other rfl <| Zt <| nx_block_exit <| Zn [3, 1] ?_
           refine nx_cutB (e' := [(3, _)]) (H' := _) (by first | exact ⟨_, _, _, in_t hb f0, rfl, rfl⟩ | exact ⟨_, 0, z, in_f hb f0, rfl, rfl⟩ | exact ⟨_, _, _, in_2 (by omega) hb0, rfl, rfl⟩)
          ·
           refine at_skip <| Zx <| at_exit <| nx_block_other rfl <| Zt <| nx_block_other rfl <| Zt <| nx_block_other rfl <| Zt <| nx_block_other rfl <| Zt <| nx_block_exit <| Zx <| Zq <| Zg <| Za Y <| Z0 <| Zn [2] ?_
           refine Zx <| at_ret ?_
           refine nx_end1 rfl results24 Y (by exact ⟨congrArg Value.bool (decide_eq_false (val_0 k1 k7 (by omega) (by omega) (by omega) (by omega) (by omega))).symm, rfl⟩)
       ·
        refine Zg ?_
        first | refine op_v (p_eql_nat (n := 6) Y Y) ?_ | refine op_v (p_eql Y Y) ?_
        refine Za Y <| Z0 <| Zx ?_
        first | refine at_if Y (fun k4 => ?_) (fun k4 => ?_) | refine at_if_bool Y (fun k4 => ?_) (fun k4 => ?_)
        ·
         refine at_exit <| Zt <| Zt <| nx_block_other rfl <| Zt <| nx_block_other rfl <| Zt <| nx_block_exit <| Zn [3, 1] ?_
         refine nx_cutB (e' := [(3, _)]) (H' := _) (by first | exact ⟨_, _, in_7t k7 hb0 e0, rfl, rfl⟩ | exact ⟨_, 0, in_7f k7 hb0 e0, rfl, rfl⟩ | exact ⟨_, _, in_4 (by omega) hb0, rfl, rfl⟩)
        ·
         refine at_skip <| Zx <| Zq <| Zq <| Zg ?_
         first | refine op_v (p_eql_nat (n := 2) Y Y) ?_ | refine op_v (p_eql Y Y) ?_
         refine Za Y <| Z0 <| Zx ?_
         first | refine at_if Y (fun k2 => ?_) (fun k2 => ?_) | refine at_if_bool Y (fun k2 => ?_) (fun k2 => ?_)
         ·
          refine at_skip <| Zx ?_
          first | refine at_if Y (fun k2 => ?_) (fun k2 => ?_) | refine at_if_bool Y (fun k2 => ?_) (fun k2 => ?_)
          ·
           refine at_exit <| Zt <| nx_block_other rfl <| Zt <| nx_block_other rfl <| Zt <| nx_block_other rfl <| Zt <| nx_block_exit <| Zn [3, 1] ?_
           refine nx_cutB (e' := [(3, _)]) (H' := _) (by first | exact ⟨_, _, _, in_t hb f0, rfl, rfl⟩ | exact ⟨_, 0, z, in_f hb f0, rfl, rfl⟩ | exact ⟨_, _, _, in_2 (by omega) hb0, rfl, rfl⟩)
          ·
           refine at_skip <| Zx <| at_exit <| nx_block_other rfl <| Zt <| nx_block_other rfl <| Zt <| nx_block_other rfl <| Zt <| nx_block_other rfl <| Zt <| nx_block_exit <| Zx <| Zq <| Zg <| Za Y <| Z0 <| Zn [2] ?_
           refine Zx <| at_ret ?_
           refine nx_end1 rfl results24 Y (by exact ⟨congrArg Value.bool (decide_eq_false (val_0 k1 k7 (by omega) (by omega) (by omega) (by omega) (by omega))).symm, rfl⟩)
         ·
          refine Zg ?_
          first | refine op_v (p_eql_nat (n := 3) Y Y) ?_ | refine op_v (p_eql Y Y) ?_
          refine Za Y <| Z0 <| Zn [1, 3, 34] ?_
          refine Zx ?_
          first | refine at_if Y (fun k2 => ?_) (fun k2 => ?_) | refine at_if_bool Y (fun k2 => ?_) (fun k2 => ?_)
          ·
           refine at_exit <| Zt <| nx_block_other rfl <| Zt <| nx_block_other rfl <| Zt <| nx_block_other rfl <| Zt <| nx_block_exit <| Zn [3, 1] ?_
           refine nx_cutB (e' := [(3, _)]) (H' := _) (by first | exact ⟨_, _, _, in_t hb f0, rfl, rfl⟩ | exact ⟨_, 0, z, in_f hb f0, rfl, rfl⟩ | exact ⟨_, _, _, in_2 (by omega) hb0, rfl, rfl⟩)
          ·
           refine at_skip <| Zx <| at_exit <| nx_block_other rfl <| Zt <| nx_block_other rfl <| Zt <| nx_block_other rfl <| Zt <| nx_block_other rfl <| Zt <| nx_block_exit <| Zx <| Zq <| Zg <| Za Y <| Z0 <| Zx <| at_ret ?_
           refine nx_end1 rfl results24 Y (by exact ⟨congrArg Value.bool (decide_eq_false (val_0 k1 k7 (by omega) (by omega) (by omega) (by omega) (by omega))).symm, rfl⟩)
   case hy_7 =>
    rintro _ _ ⟨b, z, hb, rfl, rfl⟩
    refine Zq <| Zg <| Zm Y <| Zm Y ?_
    refine ops_split_bool (t := 73) Y rfl (fun f0 => ?_) (fun f0 => ?_)
    ·
     refine Yf 5 underlying29 rfl rfl sizeOf3 Y <| Yl isAgg3 Y ?_
     refine Zr [_, _, _] Y call39 Y rfl (q_within _ _ _) ?_
     rintro _ _ ⟨rfl, rfl⟩
     refine Zv (p_pick_t Y Y) <| Za Y <| Z0 <| Zx <| Zg <| Zh 5 underlying29 rfl rfl sizeOf3 Y <| Ze (Zs sizeOf3 Y Y rfl) ?_
     rintro _ _ ⟨rfl, rfl⟩
     refine Z0 <| nx_block_normal <| Zn [3, 1] ?_
     refine nx_cutB (e' := [(3, _)]) (H' := _) (by first | exact ⟨_, _, _, in_t hb f0, rfl, rfl⟩ | exact ⟨_, 0, z, in_f hb f0, rfl, rfl⟩ | exact ⟨_, _, _, in_2 (by omega) hb0, rfl, rfl⟩)
    ·
     refine op_skip Y rfl <| op_skip Y rfl <| op_skip Y rfl <| Zv (p_pick_f Y Y) <| Za Y <| Z0 <| Zx <| Zg <| Zh 5 underlying29 rfl rfl sizeOf3 Y <| Ze (Zs sizeOf3 Y Y rfl) ?_
     rintro _ _ ⟨rfl, rfl⟩
     refine Z0 <| nx_block_normal <| Zn [3, 1] ?_
     refine nx_cutB (e' := [(3, _)]) (H' := _) (by first | exact ⟨_, _, _, in_t hb f0, rfl, rfl⟩ | exact ⟨_, 0, z, in_f hb f0, rfl, rfl⟩ | exact ⟨_, _, _, in_2 (by omega) hb0, rfl, rfl⟩)
  case hy_6 =>
   rintro _ _ ⟨b, y, z, hb, rfl, rfl⟩
   refine Zq <| Zq <| Zg <| Zm Y <| Zm Y ?_
   refine ops_split_bool (t := 80) Y rfl (fun g0 => ?_) (fun g0 => ?_)
   ·
    refine Yf 5 underlying29 rfl rfl sizeOf3 Y <| Yl isAgg3 Y ?_
    first | refine op_wg Y (p_eql_nat (n := 0) Y Y) rfl rfl ?_ | refine op_wg Y (p_eql Y Y) rfl rfl ?_
    refine Zv (p_pick_t Y Y) <| Zm Y ?_
    first | refine ops_split (t := 85) Y rfl (fun g1 => ?_) (fun g1 => ?_) | refine ops_split_bool (t := 85) Y rfl (fun g1 => ?_) (fun g1 => ?_)
    ·
     refine Yf 6 underlying29 rfl rfl sizeOf3 Y <| Yl isAgg3 Y ?_
     first | refine op_wg Y (p_eql_nat (n := 0) Y Y) rfl rfl ?_ | refine op_wg Y (p_eql Y Y) rfl rfl ?_
     refine Zv (p_pick_t Y Y) <| Za Y <| Z0 <| Zx <| at_ret <| Zt <| nx_block_ret <| Zt ?_
     refine nx_end1 rfl results24 Y (by exact ⟨by rw [← hb]; simp [*], rfl⟩)
    ·
     refine op_skip Y rfl <| op_skip Y rfl <| op_skip Y rfl <| Zv (p_pick_f Y Y) <| Za Y <| Z0 <| Zx <| at_ret <| Zt <| nx_block_ret <| Zt ?_
     refine nx_end1 rfl results24 Y (by exact ⟨by rw [← hb]; simp [*], rfl⟩)
   ·
    refine op_skip Y rfl <| op_skip Y rfl <| op_skip Y rfl <| Zv (p_pick_f Y Y) <| Zm Y <| op_skip Y rfl <| op_skip Y rfl <| op_skip Y rfl <| Zv (p_pick_f Y Y) <| Za Y <| Z0 <| Zx <| at_ret <| Zt <| nx_block_ret <| Zt ?_
    refine nx_end1 rfl results24 Y (by exact ⟨by rw [← hb]; simp [*], rfl⟩)

end Go.Proofs.YtkgmgmkbgnkdnaaGreat
