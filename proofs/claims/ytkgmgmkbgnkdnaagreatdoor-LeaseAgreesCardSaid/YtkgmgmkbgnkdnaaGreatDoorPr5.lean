/- predicate.Patch, Apply. -/
import Derived.Test.YtkgmgmkbgnkdnaaGreatDoorEz
import Derived.Test.YtkgmgmkbgnkdnaaGreatDoorPr4
namespace Go.Proofs.YtkgmgmkbgnkdnaaGreatDoor
open Go.Proofs.Tryz
open Go Go.RowKit Gw
set_option linter.unusedVariables false
set_option linter.unusedSimpArgs false
set_option maxRecDepth 100000
attribute [local irreducible] Gw.At Gw.Nx Gw.Ops
def touchV (q : QM) (c : Chg) : Bool := decide c.ok && touchQ q c
def stepT (q : QM) (c : Chg) (r : ResM) : ResM × Bool := if touchV q c then (if (patchT q c r).2 then ((patchT q c r).1, true) else (ResM.none, false)) else (r, true)
def runC (q : QM) (r : ResM) : List Chg → Option ResM
  | [] => some r
  | c :: cs => if (stepT q c r).2 then runC q (stepT q c r).1 cs else none
theorem runC_app (q : QM) : ∀ (a : List Chg) (r : ResM) (b : List Chg), runC q r (a ++ b) = (runC q r a).bind fun r' => runC q r' b
  | [], _, _ => rfl
  | c :: a, r, b => by
    show (if (stepT q c r).2 then runC q (stepT q c r).1 (a ++ b) else none) = (if (stepT q c r).2 then runC q (stepT q c r).1 a else none).bind fun r' => runC q r' b
    split
    · exact runC_app q a _ b
    · rfl
def applyT (q : QM) (r : ResM) (cs : List Chg) : ResM × Bool × Bool := match runC q r cs with
  | some r' => (r', cs.any (touchV q), true)
  | none => (ResM.none, true, false)
theorem stepT_len (q : QM) (c : Chg) (r : ResM) : (stepT q c r).1.rows.length ≤ r.rows.length + 1 := by
  have h := patchT_len q c r
  unfold stepT
  split
  · split
    · exact h
    · exact Nat.zero_le _
  · exact Nat.le_succ _
theorem patchT_val {q : QM} {c : Chg} (hm : MIn q c) {r : ResM} {B : Int} (h : -B ≤ r.val ∧ r.val ≤ B) (h0 : 0 ≤ B) : -(B + 2000000000) ≤ (patchT q c r).1.val ∧ (patchT q c r).1.val ≤ B + 2000000000 := by
  obtain ⟨⟨h1, h2⟩, h3, h4⟩ := hm
  have hx : ∀ lt b a, -(B + 2000000000) ≤ (extP lt b a (mQ q (bfQ q c)) (mQ q (afQ q c)) r).1.val ∧ (extP lt b a (mQ q (bfQ q c)) (mQ q (afQ q c)) r).1.val ≤ B + 2000000000 := fun lt b a => by
    unfold extP
    split
    · constructor <;> (simp only; omega)
    · split
      · simp only
        split <;> (constructor <;> omega)
      · constructor <;> (simp only; omega)
  unfold patchT
  split
  · constructor <;> (simp only; omega)
  · split
    · simp only
      split <;> (constructor <;> omega)
    · split
      · constructor <;> (simp only; omega)
      · split
        · exact hx _ _ _
        · exact hx _ _ _
theorem stepT_val {q : QM} {c : Chg} {r : ResM} {B : Int} (h : -B ≤ r.val ∧ r.val ≤ B) (h0 : 0 ≤ B) : -(B + 2000000000) ≤ (stepT q c r).1.val ∧ (stepT q c r).1.val ≤ B + 2000000000 := by
  unfold stepT
  split
  · rename_i h9
    unfold touchV at h9
    rw [Bool.and_eq_true] at h9
    split
    · exact patchT_val (m_in q (of_decide_eq_true h9.1)) h h0
    · constructor <;> (simp only [ResM.none]; omega)
  · constructor <;> (simp only; omega)
theorem runC_snoc {q : QM} {r rk : ResM} {cs : List Chg} {k : Nat} {x : Chg} (h : runC q r (cs.take k) = some rk) (hx : cs[k]? = some x) : runC q r (cs.take (k + 1)) = if (stepT q x rk).2 then some (stepT q x rk).1 else none := by
  rw [take_snoc hx, runC_app, h]
  show runC q rk [x] = _
  unfold runC runC
  rfl
theorem runC_none {q : QM} {r : ResM} {cs : List Chg} {k : Nat} (h : runC q r (cs.take k) = none) : runC q r cs = none := by
  rw [← List.take_append_drop k cs, runC_app, h]; rfl
theorem anyV_snoc {cs : List Chg} {k : Nat} {x : Chg} (f : Chg → Bool) (hx : cs[k]? = some x) : (cs.take (k + 1)).any f = ((cs.take k).any f || f x) := by
  rw [take_snoc hx, List.any_append, List.any_cons, List.any_nil, Bool.or_false]
theorem runC_in {q : QM} : ∀ (cs : List Chg) (r r' : ResM) (B : Int) (n : Nat), runC q r cs = some r' → (-B ≤ r.val ∧ r.val ≤ B) → 0 ≤ B → r.rows.length ≤ n → (-(B + 2000000000 * (cs.length : Int)) ≤ r'.val ∧ r'.val ≤ B + 2000000000 * (cs.length : Int)) ∧ r'.rows.length ≤ n + cs.length
  | [], r, r', B, n, h, h1, h2, h3 => by
    unfold runC at h
    injection h with h
    subst h
    simp only [List.length_nil]
    exact ⟨⟨by omega, by omega⟩, h3⟩
  | c :: cs, r, r', B, n, h, h1, h2, h3 => by
    unfold runC at h
    split at h
    · have h4 := stepT_val (q := q) (c := c) h1 h2
      have h5 := stepT_len q c r
      have h6 := runC_in cs _ r' (B + 2000000000) (n + 1) h h4 (by omega) (by omega)
      rw [List.length_cons]
      obtain ⟨⟨h7, h8⟩, h9⟩ := h6
      refine ⟨⟨?_, ?_⟩, by omega⟩ <;> (push_cast; omega)
    · cases h

set_option maxHeartbeats 1000000 in
theorem patch_spec (q : QM) (hq : ValidQ q) (h7 : q.kd ≠ 7) (c : Chg) {r : ResM} {rv : Value} {A : List Chunk} (hr : RowsU A rv r.rows) (hn : r.rows.length ≤ 100000000) (hv : -4000000000000000000 ≤ r.val ∧ r.val ≤ 4000000000000000000) : Does Tryz.prog 75 #[.agg #[.int .i64 q.kd, .int .i64 q.tb, .int .i64 q.cl, .int .i64 q.lo, .int .i64 q.hi, .int .i64 q.bq, .int .i64 q.ot], .agg #[rv, .int .i64 r.val, .bool r.fnd], .agg #[.int .i64 c.t, .int .i64 c.k, .bool c.had, .int .i64 c.o.a, .int .i64 c.o.b, .int .i64 c.o.c, .bool c.has, .int .i64 c.n.a, .int .i64 c.n.b, .int .i64 c.n.c]] [A] (fun w H' => ∃ rv' s', w = .tuple #[.agg #[rv', .int .i64 (stepT q c r).1.val, .bool (stepT q c r).1.fnd], .bool (stepT q c r).2] ∧ RowS 5 67 rv' (stepT q c r).1.rows.length (rowCells (stepT q c r).1.rows) s' ∧ H' = [s', A]) := by
 have hml : maxLen = 9223372036854775807 := rfl
 obtain ⟨pv, cv, rfl, _⟩ := id hr
 refine spec_enter func75 rfl ntmps75 rfl ?_
 intro u R
 refine Zb [0, 1, 2] ?_
 refine Zq <| Zg <| Ze (w_box Y (cs := #[.int .i64 q.kd, .int .i64 q.tb, .int .i64 q.cl, .int .i64 q.lo, .int .i64 q.hi, .int .i64 q.bq, .int .i64 q.ot]) (by simp [Value.cells])) ?_
 rintro _ _ ⟨bq, rfl, rfl⟩
 refine Ze (w_box Y (cs := #[.slice pv r.rows.length cv, .int .i64 r.val, .bool r.fnd]) (by simp [Value.cells])) ?_
 rintro _ _ ⟨br, rfl, rfl⟩
 refine Ze (w_box Y (cs := #[.int .i64 c.t, .int .i64 c.k, .bool c.had, .int .i64 c.o.a, .int .i64 c.o.b, .int .i64 c.o.c, .bool c.has, .int .i64 c.n.a, .int .i64 c.n.b, .int .i64 c.n.c]) (by simp [Value.cells])) ?_
 rintro _ _ ⟨bc, rfl, rfl⟩
 refine Ze (w_alloc zeroValue40 (cs := #[_, _, _]) rfl) ?_
 rintro _ _ ⟨bo, rfl, rfl⟩
 refine Za Y <| Z0 <| Zx <| Zq <| Zg <| Zh 0 underlying40 rfl rfl sizeOf38 Y <| Zl isAgg38 Y ?_
 refine Zc [_] Y call35 Y rfl (rclone_spec hr (by omega)) ?_
 rintro _ _ ⟨_, ⟨s1, h1, rfl⟩, rfl⟩
 obtain ⟨g1, c1, rfl⟩ := h1.form
 refine Zh 0 underlying40 rfl rfl sizeOf38 Y <| Xe (Zs sizeOf38 Y Y rfl (hi := by first | omega | decide | (simp; done))) ?_
 refine Z0 <| Zx <| Zq <| Zq <| Zg <| Zo Wh (p_load_agg (cs := #[_, _, _, _, _, _, _]) isAgg30 sizeOf30 Y Wb (by rfl)) ?_
 refine Zo Wh (p_load_agg (cs := #[_, _, _, _, _, _, _, _, _, _]) isAgg55 sizeOf55 Y Wb (by rfl)) ?_
 refine Xr [_, _] Y call13 Y rfl (touches_spec q c) ?_
 rw [show (decide (ValidQ q) && (decide c.ok && touchQ q c)) = touchV q c by rw [decide_eq_true hq]; rfl]
 refine Zv (p_not Y) <| Z0 <| Zn [3, 4, 5, 6, 17] ?_
 refine Zx ?_
 refine at_if_bool Y (fun ht => ?_) (fun ht => ?_)
 ·
  have ht9 : touchV q c = false := by simpa using ht
  refine Zq <| Zg <| Zo Wh (p_load_agg (cs := #[_, _, _]) isAgg40 sizeOf40 Y Wb (by rfl)) ?_
  refine Xe (w_store_agg sizeOf40 Y Y (by (simp [Value.oneCell']; done)) Wu (by rfl) (by first | rfl | (simp; done)) Wb (by exact free_zero _)) ?_
  refine Za Y <| Z0 <| Zx <| at_ret <| Zt ?_
  refine nx_endct rfl results75 Y Wh (loadVar_agg isAgg40 sizeOf40 Wn (rfl)) Y (by
        have e9 : stepT q c r = (r, true) := by unfold stepT; rw [ht9]; rfl
        exact ⟨.slice g1 r.rows.length c1, s1, by rw [e9]; rfl, by rw [e9]; exact h1, rfl⟩)
 have ht9 : touchV q c = true := by simpa using ht
 have hco : c.ok := by unfold touchV at ht9; rw [Bool.and_eq_true] at ht9; exact of_decide_eq_true ht9.1
 refine at_skip <| Zx <| Zb [3, 4, 5, 6] ?_
 refine at_cutB (e0 := [(3, _), (4, _), (5, _)]) (H0 := [s1]) (fun e H => ∃ (b8 : Nat) (g3 : Option Addr) (c3 : Nat) (s3 : List Chunk), (RowS 5 67 (.slice g3 (patchT q c r).1.rows.length c3) (patchT q c r).1.rows.length (rowCells (patchT q c r).1.rows) s3) ∧ e = [(8, .pointer (some ⟨b8, 0, none⟩)), (9, .bool (patchT q c r).2)] ∧ H = [[(b8, .cells #[.slice g3 (patchT q c r).1.rows.length c3, .int .i64 (patchT q c r).1.val, .bool (patchT q c r).1.fnd] 40 (0, 0))], s3]) Wp ?hx_2 ?hy_2
 case hx_2 =>
  refine at_draw (n := 16) (0 :: 0 :: 2 :: 7 :: 15 :: 0 :: 0 :: 97 :: 0 :: 511 :: 1023 :: 2047 :: 2047 :: 0 :: 12287 :: 32767 :: []) 25217 (by kernel_rfl) (by kernel_rfl) rfl ?_
  refine Zi 2 1 rfl (p_fieldAddr0 (off := 0) underlying30 rfl rfl sizeOf3 Y) <| Zj 6 2 rfl isAgg3 Y ?_
  refine lin_r (D' := 38) 5 rfl rfl rfl Wh (p_load_agg (cs := #[_, _, _, _, _, _, _]) isAgg30 sizeOf30 Y Wb (by rfl)) ?_
  refine lin_r (D' := 102) 6 rfl rfl rfl Wh (p_load_agg (cs := #[_, _, _, _, _, _, _, _, _, _]) isAgg55 sizeOf55 Y Wb (by rfl)) ?_
  refine lin_r (D' := 358) 8 rfl rfl rfl Wh (p_load_agg (cs := #[_, _, _]) isAgg40 sizeOf40 Y Wb (by rfl)) ?_
  refine Zz (l := [0, 13]) ?_
  refine Zy 0 359 [8, 6, 5, 2] [true, true, true, true] [(8, (_, _)), (6, (_, _)), (5, (_, _)), (2, (_, _))] rfl Y rfl rfl rfl rfl (Zw [] Y call41 Y rfl (kinds_spec)) ?hk_3 no_pan ?hl_3
  case hk_3 =>
   rintro _ _ ⟨_, ⟨mb, es, ck, lm, b5, b6, rfl, hm, hp, rfl⟩, rfl⟩
   refine ⟨Zk (Zk (Zk (Zk (keep_nil)))), ?_⟩
   have hget := kinds_at2 hp hm.keys hq.kind
   refine lin_r (D' := 367) 3 rfl rfl rfl Wh (p_lookup1 intKey underlying110 zeroValue109 hm (fun _ _ => trivial) (trivial) ((by rw [hget]; exact rfl : _ = Value.agg #[.func (.func (kindF q.kd)) #[] #[], .func (.func (patchF q.kd)) #[] (patchU b5 b6 q.kd).toArray])) Y Y) ?_
   refine Zi 383 4 rfl (p_field underlying109 rfl isAgg107 Y rfl) <| Zz (l := [7, 13]) ?_
   refine Zy 97 511 [3, 8, 6, 5, 2] [true, true, false, false, true] [(3, (_, _)), (8, (_, _)), (2, (_, _))] rfl Y rfl rfl rfl rfl (Zw [_, _] Y call42 Y rfl (effect_spec q hq.2.1 (by have := hq.2.2.2; omega) c)) ?hk_4 no_pan ?hl_4
   case hk_4 =>
    rintro _ _ ⟨_, ⟨p1, p2, s21, s22, rfl, hP1, hP2, rfl⟩, rfl⟩
    refine ⟨Zk (Zk (Zk (keep_nil))), ?_⟩
    refine Zz (l := [9, 13]) ?_
    refine Zy 511 1023 [3, 8, 2] [false, false, false] [] rfl Y rfl rfl rfl rfl (Zw [_, _] Y (patch_call hq.kind) Y rfl (kind_patch q c hq h7 (m_in q hco) hP1 hP2 b5 b6 r g1 c1 s1 h1 hn hv)) ?hk_5 no_pan ?hl_5
    case hk_5 =>
     rintro _ _ ⟨_, ⟨rv2, s3, rfl, h3, rfl⟩, rfl⟩
     refine ⟨keep_nil, ?_⟩
     obtain ⟨g3, c3, rfl⟩ := h3.form
     refine Zi 2047 10 rfl (p_move Y) <| Zi 4095 11 rfl (p_extract Y rfl) <| Zi 8191 12 rfl (p_extract Y rfl) <| Zz (l := [13]) ?_
     refine Zy 0 16383 [] [] [] rfl Y rfl rfl rfl rfl (w_alloc zeroValue40 (cs := #[_, _, _]) rfl) ?hk_6 (fun _ _ h => h.elim) ?hl_6
     case hk_6 =>
      rintro _ _ ⟨b8, rfl, rfl⟩
      refine ⟨keep_nil, ?_⟩
      refine Yz 14 12287 32767 [] [] [] rfl Y rfl rfl rfl rfl (w_store_agg sizeOf40 Y Y (by (simp [Value.oneCell']; done)) Wu (by exact (rfl : _ = (#[.slice g3 (patchT q c r).1.rows.length c3, .int .i64 (patchT q c r).1.val, .bool (patchT q c r).1.fnd] : Array Value))) (by first | rfl | (simp; done)) Wb (by exact free_zero _)) ?_
      rintro _ _ ⟨rfl, rfl⟩
      refine ⟨keep_nil, ?_⟩
      refine Zi 65535 15 rfl (p_assign Y) <| lin_nil ?_
      refine Zn [8, 9, 6] ?_
      refine nx_cutB (e' := [(8, _), (9, _)]) (H' := _) (by exact ⟨b8, g3, c3, s3, h3, rfl, rfl⟩)
     exact each_nil
    refine Zy 0 8703 [3, 8, 2] [true, true, true] [(3, (_, _)), (8, (_, _)), (2, (_, _))] rfl Y rfl rfl rfl rfl (w_alloc zeroValue40 (cs := #[_, _, _]) rfl) ?hk_9 (fun _ _ h => h.elim) ?hl_9
    case hk_9 =>
     rintro _ _ ⟨b8, rfl, rfl⟩
     refine ⟨Zk (Zk (Zk (keep_nil))), ?_⟩
     refine Zz (l := [9]) ?_
     refine Zy 511 9215 [3, 8, 2] [false, false, false] [] rfl Y rfl rfl rfl rfl (Zw [_, _] Y (patch_call hq.kind) Y rfl (kind_patch q c hq h7 (m_in q hco) hP1 hP2 b5 b6 r g1 c1 s1 h1 hn hv)) ?hk_10 no_pan ?hl_10
     case hk_10 =>
      rintro _ _ ⟨_, ⟨rv2, s3, rfl, h3, rfl⟩, rfl⟩
      refine ⟨keep_nil, ?_⟩
      obtain ⟨g3, c3, rfl⟩ := h3.form
      refine Zi 10239 10 rfl (p_move Y) <| Zi 12287 11 rfl (p_extract Y rfl) <| Zi 16383 12 rfl (p_extract Y rfl) <| Zz (l := [14]) ?_
      refine Zy 12287 32767 [] [] [] rfl Y rfl rfl rfl rfl (w_store_agg sizeOf40 Y Y (by (simp [Value.oneCell']; done)) Wu (by exact (rfl : _ = (#[.slice g3 (patchT q c r).1.rows.length c3, .int .i64 (patchT q c r).1.val, .bool (patchT q c r).1.fnd] : Array Value))) (by first | rfl | (simp; done)) Wb (by exact free_zero _)) ?hk_11 (fun _ _ h => h.elim) ?hl_11
      case hk_11 =>
       rintro _ _ ⟨rfl, rfl⟩
       refine ⟨keep_nil, ?_⟩
       refine Zi 65535 15 rfl (p_assign Y) <| lin_nil ?_
       refine Zn [8, 9, 6] ?_
       refine nx_cutB (e' := [(8, _), (9, _)]) (H' := _) (by exact ⟨b8, g3, c3, s3, h3, rfl, rfl⟩)
      exact each_nil
     exact each_nil
    exact each_nil
   refine Zy 0 8575 [3, 8, 6, 5, 2] [true, true, true, true, true] [(3, (_, _)), (8, (_, _)), (6, (_, _)), (5, (_, _)), (2, (_, _))] rfl Y rfl rfl rfl rfl (w_alloc zeroValue40 (cs := #[_, _, _]) rfl) ?hk_13 (fun _ _ h => h.elim) ?hl_13
   case hk_13 =>
    rintro _ _ ⟨b8, rfl, rfl⟩
    refine ⟨Zk (Zk (Zk (Zk (Zk (keep_nil))))), ?_⟩
    refine Zz (l := [7]) ?_
    refine Zy 97 8703 [3, 8, 6, 5, 2] [true, true, false, false, true] [(3, (_, _)), (8, (_, _)), (2, (_, _))] rfl Y rfl rfl rfl rfl (Zw [_, _] Y call42 Y rfl (effect_spec q hq.2.1 (by have := hq.2.2.2; omega) c)) ?hk_14 no_pan ?hl_14
    case hk_14 =>
     rintro _ _ ⟨_, ⟨p1, p2, s21, s22, rfl, hP1, hP2, rfl⟩, rfl⟩
     refine ⟨Zk (Zk (Zk (keep_nil))), ?_⟩
     refine Zz (l := [9]) ?_
     refine Zy 511 9215 [3, 8, 2] [false, false, false] [] rfl Y rfl rfl rfl rfl (Zw [_, _] Y (patch_call hq.kind) Y rfl (kind_patch q c hq h7 (m_in q hco) hP1 hP2 b5 b6 r g1 c1 s1 h1 hn hv)) ?hk_15 no_pan ?hl_15
     case hk_15 =>
      rintro _ _ ⟨_, ⟨rv2, s3, rfl, h3, rfl⟩, rfl⟩
      refine ⟨keep_nil, ?_⟩
      obtain ⟨g3, c3, rfl⟩ := h3.form
      refine Zi 10239 10 rfl (p_move Y) <| Zi 12287 11 rfl (p_extract Y rfl) <| Zi 16383 12 rfl (p_extract Y rfl) <| Zz (l := [14]) ?_
      refine Zy 12287 32767 [] [] [] rfl Y rfl rfl rfl rfl (w_store_agg sizeOf40 Y Y (by (simp [Value.oneCell']; done)) Wu (by exact (rfl : _ = (#[.slice g3 (patchT q c r).1.rows.length c3, .int .i64 (patchT q c r).1.val, .bool (patchT q c r).1.fnd] : Array Value))) (by first | rfl | (simp; done)) Wb (by exact free_zero _)) ?hk_16 (fun _ _ h => h.elim) ?hl_16
      case hk_16 =>
       rintro _ _ ⟨rfl, rfl⟩
       refine ⟨keep_nil, ?_⟩
       refine Zi 65535 15 rfl (p_assign Y) <| lin_nil ?_
       refine Zn [8, 9, 6] ?_
       refine nx_cutB (e' := [(8, _), (9, _)]) (H' := _) (by exact ⟨b8, g3, c3, s3, h3, rfl, rfl⟩)
      exact each_nil
     exact each_nil
    exact each_nil
   exact each_nil
  refine Zy 0 8550 [8, 6, 5, 2] [true, true, true, true] [(8, (_, _)), (6, (_, _)), (5, (_, _)), (2, (_, _))] rfl Y rfl rfl rfl rfl (w_alloc zeroValue40 (cs := #[_, _, _]) rfl) ?hk_18 (fun _ _ h => h.elim) ?hl_18
  case hk_18 =>
   rintro _ _ ⟨b8, rfl, rfl⟩
   refine ⟨Zk (Zk (Zk (Zk (keep_nil)))), ?_⟩
   refine Zz (l := [0]) ?_
   refine Zy 0 8551 [8, 6, 5, 2] [true, true, true, true] [(8, (_, _)), (6, (_, _)), (5, (_, _)), (2, (_, _))] rfl Y rfl rfl rfl rfl (Zw [] Y call41 Y rfl (kinds_spec)) ?hk_19 no_pan ?hl_19
   case hk_19 =>
    rintro _ _ ⟨_, ⟨mb, es, ck, lm, b5, b6, rfl, hm, hp, rfl⟩, rfl⟩
    refine ⟨Zk (Zk (Zk (Zk (keep_nil)))), ?_⟩
    have hget := kinds_at2 hp hm.keys hq.kind
    refine lin_r (D' := 8559) 3 rfl rfl rfl Wh (p_lookup1 intKey underlying110 zeroValue109 hm (fun _ _ => trivial) (trivial) ((by rw [hget]; exact rfl : _ = Value.agg #[.func (.func (kindF q.kd)) #[] #[], .func (.func (patchF q.kd)) #[] (patchU b5 b6 q.kd).toArray])) Y Y) ?_
    refine Zi 8575 4 rfl (p_field underlying109 rfl isAgg107 Y rfl) <| Zz (l := [7]) ?_
    refine Zy 97 8703 [3, 8, 6, 5, 2] [true, true, false, false, true] [(3, (_, _)), (8, (_, _)), (2, (_, _))] rfl Y rfl rfl rfl rfl (Zw [_, _] Y call42 Y rfl (effect_spec q hq.2.1 (by have := hq.2.2.2; omega) c)) ?hk_20 no_pan ?hl_20
    case hk_20 =>
     rintro _ _ ⟨_, ⟨p1, p2, s21, s22, rfl, hP1, hP2, rfl⟩, rfl⟩
     refine ⟨Zk (Zk (Zk (keep_nil))), ?_⟩
     refine Zz (l := [9]) ?_
     refine Zy 511 9215 [3, 8, 2] [false, false, false] [] rfl Y rfl rfl rfl rfl (Zw [_, _] Y (patch_call hq.kind) Y rfl (kind_patch q c hq h7 (m_in q hco) hP1 hP2 b5 b6 r g1 c1 s1 h1 hn hv)) ?hk_21 no_pan ?hl_21
     case hk_21 =>
      rintro _ _ ⟨_, ⟨rv2, s3, rfl, h3, rfl⟩, rfl⟩
      refine ⟨keep_nil, ?_⟩
      obtain ⟨g3, c3, rfl⟩ := h3.form
      refine Zi 10239 10 rfl (p_move Y) <| Zi 12287 11 rfl (p_extract Y rfl) <| Zi 16383 12 rfl (p_extract Y rfl) <| Zz (l := [14]) ?_
      refine Zy 12287 32767 [] [] [] rfl Y rfl rfl rfl rfl (w_store_agg sizeOf40 Y Y (by (simp [Value.oneCell']; done)) Wu (by exact (rfl : _ = (#[.slice g3 (patchT q c r).1.rows.length c3, .int .i64 (patchT q c r).1.val, .bool (patchT q c r).1.fnd] : Array Value))) (by first | rfl | (simp; done)) Wb (by exact free_zero _)) ?hk_22 (fun _ _ h => h.elim) ?hl_22
      case hk_22 =>
       rintro _ _ ⟨rfl, rfl⟩
       refine ⟨keep_nil, ?_⟩
       refine Zi 65535 15 rfl (p_assign Y) <| lin_nil ?_
       refine Zn [8, 9, 6] ?_
       refine nx_cutB (e' := [(8, _), (9, _)]) (H' := _) (by exact ⟨b8, g3, c3, s3, h3, rfl, rfl⟩)
      exact each_nil
     exact each_nil
    exact each_nil
   exact each_nil
  exact each_nil
 rintro _ _ ⟨b8, g3, c3, s3, h3, rfl, rfl⟩
 refine Zq <| Zq <| Zg <| Zm Y <| Zv (p_not Y) <| Z0 <| Zx ?_
 refine at_if_bool Y (fun hk => ?_) (fun hk => ?_)
 ·
  have hk9 : (patchT q c r).2 = false := by simpa using hk
  refine Zq <| at_nil ?_
  refine Zg <| Zv (p_build (vs := []) (cs := #[_, _, _]) Y (run_build_struct (pl := #[(0, 1), (1, 1), (2, 1)]) zeroValue40 underlying40 (fun _ => by kernel_rfl) rfl)) ?_
  refine Xe (w_store_agg sizeOf40 Y Y (by (simp [Value.oneCell']; done)) Wu (by rfl) (by first | rfl | (simp; done)) Wb (by exact free_zero _)) ?_
  refine Za Y <| Z0 <| Zx <| at_ret <| Zt ?_
  refine nx_endct rfl results75 Y Wh (loadVar_agg isAgg40 sizeOf40 Wn (rfl)) Y (by
        have e9 : stepT q c r = (ResM.none, false) := by unfold stepT; rw [ht9, if_pos rfl, hk9]; rfl
        exact ⟨.slice none 0 0, [], by rw [e9]; rfl, by rw [e9]; exact rowS_nil 5 _, rfl⟩)
 have hk9 : (patchT q c r).2 = true := by simpa using hk
 refine at_skip <| Zx <| Zq <| Zg <| Zo Wh (p_load_agg (cs := #[_, _, _]) isAgg40 sizeOf40 Y Wb (by rfl)) ?_
 refine Xe (w_store_agg sizeOf40 Y Y (by (simp [Value.oneCell']; done)) Wu (by rfl) (by first | rfl | (simp; done)) Wb (by exact free_zero _)) ?_
 refine Za Y <| Z0 <| Zx <| at_ret ?_
 refine nx_endct rfl results75 Y Wh (loadVar_agg isAgg40 sizeOf40 Wn (rfl)) Y (by
       have e9 : stepT q c r = ((patchT q c r).1, true) := by unfold stepT; rw [ht9, if_pos rfl, hk9]; rfl
       exact ⟨.slice g3 _ c3, s3, by rw [e9]; rfl, by rw [e9]; exact h3, rfl⟩)

set_option maxHeartbeats 1000000 in
theorem apply_spec (q : QM) (hq : ValidQ q) (h7 : q.kd ≠ 7) (p : Int) (qa : Option Addr) (cap : Nat) (cs : List Chg) {MC : List Chunk} (hC : ChgsIn MC (.slice qa cs.length cap) cs) (hcl : cs.length ≤ 1000) {r : ResM} {rv : Value} {A : List Chunk} (hr : RowsU A rv r.rows) (hn : r.rows.length ≤ 10000000) (hv : -2000000000000000000 ≤ r.val ∧ r.val ≤ 2000000000000000000) : Does Tryz.prog 36 #[.agg #[.int .i64 q.kd, .int .i64 q.tb, .int .i64 q.cl, .int .i64 q.lo, .int .i64 q.hi, .int .i64 q.bq, .int .i64 q.ot], .agg #[rv, .int .i64 r.val, .bool r.fnd], .agg #[.int .i64 p, .slice qa cs.length cap]] [A, MC] (fun w H' => ∃ rv' s', w = .tuple #[.agg #[rv', .int .i64 (applyT q r cs).1.val, .bool (applyT q r cs).1.fnd], .bool (applyT q r cs).2.1, .bool (applyT q r cs).2.2] ∧ RowS 5 67 rv' (applyT q r cs).1.rows.length (rowCells (applyT q r cs).1.rows) s' ∧ H' = [s', A, MC]) := by
 have hml : maxLen = 9223372036854775807 := rfl
 obtain ⟨pv, cv, rfl, _⟩ := id hr
 obtain ⟨pc, capc, hvc, hcm, hgc⟩ := id hC
 injection hvc with hv1 hv2 hv3
 subst hv1 hv3
 refine spec_enter func36 rfl ntmps36 rfl ?_
 intro u R
 refine Zb [0, 1, 2] ?_
 refine Zq <| Zg <| Ze (w_box Y (cs := #[.int .i64 q.kd, .int .i64 q.tb, .int .i64 q.cl, .int .i64 q.lo, .int .i64 q.hi, .int .i64 q.bq, .int .i64 q.ot]) (by simp [Value.cells])) ?_
 rintro _ _ ⟨bq, rfl, rfl⟩
 refine Ze (w_box Y (cs := #[.slice pv r.rows.length cv, .int .i64 r.val, .bool r.fnd]) (by simp [Value.cells])) ?_
 rintro _ _ ⟨br, rfl, rfl⟩
 refine Ze (w_box Y (cs := #[.int .i64 p, .slice qa cs.length cap]) (by simp [Value.cells])) ?_
 rintro _ _ ⟨bc, rfl, rfl⟩
 refine Ze (w_alloc zeroValue40 (cs := #[_, _, _]) rfl) ?_
 rintro _ _ ⟨bo, rfl, rfl⟩
 refine Za Y <| Za Y <| Z0 <| Zx <| Zq <| Zg <| Za Y <| Z0 <| Zx <| Zq <| Zg <| Zh 0 underlying40 rfl rfl sizeOf38 Y <| Zl isAgg38 Y ?_
 refine Zc [_] Y call35 Y rfl (rclone_spec hr (by omega)) ?_
 rintro _ _ ⟨_, ⟨s1, h1, rfl⟩, rfl⟩
 obtain ⟨g1, c1, rfl⟩ := h1.form
 refine Zh 0 underlying40 rfl rfl sizeOf38 Y <| Xe (Zs sizeOf38 Y Y rfl (hi := by first | omega | decide | (simp; done))) ?_
 refine Z0 <| Zx <| Zq <| Zq <| Zg <| Zh 1 underlying51 rfl rfl sizeOf49 Y <| Zl isAgg49 Y ?_
 refine Zv (p_len_slice underlying49 Y) <| Zm Y <| Z0 <| Zn [3, 4, 6, 9, 18, 19, 20] ?_
 refine Zx <| at_block <| Zb [9, 20, 3, 4, 6, 18, 19] ?_
 refine at_loopB (e0 := [(9, _), (20, _)]) (H0 := _) (n := _) (fun m e H => ∃ (k : Nat) (rk : ResM) (gk : Option Addr) (ck : Nat) (sk : List Chunk), m = cs.length - k ∧ (k ≤ cs.length ∧ runC q r (cs.take k) = some rk ∧ RowS 5 67 (.slice gk rk.rows.length ck) rk.rows.length (rowCells rk.rows) sk) ∧ e = [(9, .bool ((cs.take k).any (touchV q))), (20, .int .i64 (k : Int))] ∧ H = [[(br, .cells #[.slice gk rk.rows.length ck, .int .i64 rk.val, .bool rk.fnd] 40 (0, 0))], sk]) (by exact ⟨0, r, g1, c1, s1, rfl, ⟨Nat.zero_le _, by rw [List.take_zero]; rfl, h1⟩, rfl, rfl⟩) Wp ?_
 rintro _ _ _ ⟨k, rk, gk, ck, sk, rfl, ⟨hk, hrk, hsk⟩, rfl, rfl⟩
 obtain ⟨hkv, hkn⟩ := runC_in (cs.take k) r rk 2000000000000000000 10000000 hrk hv (by omega) hn
 have hkl : (cs.take k).length = k := by rw [List.length_take]; omega
 rw [hkl] at hkv hkn
 have hUk := rowsU_row hsk (by omega)
 refine Zq <| Zg <| Zv (p_lss_nat Y Y) <| Z0 <| Zx <| Zq ?_
 refine at_if Y (fun hlt => ?_) (fun hlt => ?_)
 ·
  obtain ⟨y, hy⟩ : ∃ y, cs[k]? = some y := ⟨_, List.getElem?_eq_getElem hlt⟩
  obtain ⟨g2, off2, cur2, T2, zz2, rfl, hm2, hsz2, hex2⟩ := hgc k y hy
  refine at_skip <| Zx <| Zq <| at_block <| Zq <| Zg ?_
  (refine op_v (p_indexAddr_nat underlying49 sizeOf55 Y Y ?_) ?_; (focus (first | omega | decide | (simp; done))))
  refine op_rm (cs := [(g2, .cells cur2 T2 zz2)]) (by simp [hm2]) (p_load_agg (cs := #[.int .i64 y.t, .int .i64 y.k, .bool y.had, .int .i64 y.o.a, .int .i64 y.o.b, .int .i64 y.o.c, .bool y.has, .int .i64 y.n.a, .int .i64 y.n.b, .int .i64 y.n.c]) isAgg55 sizeOf55 Y (by omega) hex2) rfl rfl ?_
  refine Ze (w_alloc zeroValue55 (cs := #[_, _, _, _, _, _, _, _, _, _]) rfl) ?_
  rintro _ _ ⟨bx, rfl, rfl⟩
  refine Xe (w_store_agg sizeOf55 Y Y (by (simp [Value.oneCell']; done)) Wu (by exact (rfl : _ = (#[.int .i64 y.t, .int .i64 y.k, .bool y.had, .int .i64 y.o.a, .int .i64 y.o.b, .int .i64 y.o.c, .bool y.has, .int .i64 y.n.a, .int .i64 y.n.b, .int .i64 y.n.c] : Array Value))) (by first | rfl | (simp; done)) Wb (by exact free_zero _)) ?_
  refine Z0 <| Zx <| Zq <| Zg <| Zm Y <| Zm Y ?_
  refine ops_split_bool (t := 25) Y rfl (fun h1t => ?_) (fun h1t => ?_)
  ·
   have e9 : (cs.take (k + 1)).any (touchV q) = true := by rw [anyV_snoc _ hy, h1t]; rfl
   refine op_skip Y rfl <| op_skip Y rfl <| op_skip Y rfl <| Zv (p_pick_t Y Y) <| Za Y <| Z0 <| Zx <| Zq <| Zg <| Za Y <| Z0 <| Zn [3, 4, 6, 9, 11, 18, 19, 20] ?_
   refine Zx <| Zq <| Zg <| Zo Wh (p_load_agg (cs := #[_, _, _, _, _, _, _]) isAgg30 sizeOf30 Y Wb (by rfl)) ?_
   refine Zo Wh (p_load_agg (cs := #[_, _, _]) isAgg40 sizeOf40 Y Wb (by rfl)) ?_
   refine Zo Wh (p_load_agg (cs := #[_, _, _, _, _, _, _, _, _, _]) isAgg55 sizeOf55 Y Wb (by rfl)) ?_
   refine Zc [_, _, _] Y call75 Y rfl (patch_spec q hq h7 y hUk (by omega) (by omega)) ?_
   rintro _ _ ⟨_, ⟨rv3, s3, rfl, h3, rfl⟩, rfl⟩
   obtain ⟨g3, c3, rfl⟩ := h3.form
   refine Zm Y <| Zd Y rfl <| Zd Y rfl <| Xe (w_store_agg sizeOf40 Y Y (by (simp [Value.oneCell']; done)) Wu (by exact (rfl : _ = (#[.slice g3 (stepT q y rk).1.rows.length c3, .int .i64 (stepT q y rk).1.val, .bool (stepT q y rk).1.fnd] : Array Value))) (by first | rfl | (simp; done)) Wb (by exact free_zero _)) ?_
   refine Za Y <| Z0 <| Zx <| Zq <| Zg <| Zm Y <| Zv (p_not Y) <| Z0 <| Zx ?_
   refine at_if_bool Y (fun hok => ?_) (fun hok => ?_)
   ·
    have hk9 : (stepT q y rk).2 = false := by simpa using hok
    have e8 : applyT q r cs = (ResM.none, true, false) := by unfold applyT; rw [runC_none (k := k + 1) (by rw [runC_snoc hrk hy, hk9]; rfl)]
    refine Zq <| at_nil ?_
    refine Zg <| Zv (p_build (vs := []) (cs := #[_, _, _]) Y (run_build_struct (pl := #[(0, 1), (1, 1), (2, 1)]) zeroValue40 underlying40 (fun _ => by kernel_rfl) rfl)) ?_
    refine Xe (w_store_agg sizeOf40 Y Y (by (simp [Value.oneCell']; done)) Wu (by rfl) (by first | rfl | (simp; done)) Wb (by exact free_zero _)) ?_
    refine Za Y <| Za Y <| Z0 <| Zn [6, 7, 8] ?_
    refine Zx <| at_ret <| nx_block_ret <| Zt <| Zt <| nx_block_ret <| Zt ?_
    refine nx_endctt rfl results36 Y Wh (loadVar_agg isAgg40 sizeOf40 Wn (rfl)) Y Y (by exact ⟨.slice none 0 0, [], by rw [e8]; rfl, by rw [e8]; exact rowS_nil 5 _, rfl⟩)
   have hk9 : (stepT q y rk).2 = true := by simpa using hok
   refine at_skip <| nx_block_normal <| Zx <| Zg <| Ya (n := 1) Y Y <| Zm Y <| Z0 <| Zn [9, 20, 3, 4, 6, 18, 19] ?_
   refine nx_againB (e' := [(9, _), (20, _)]) (m := _) (H' := _) (by exact ⟨k + 1, (stepT q y rk).1, g3, c3, s3, rfl, ⟨by omega, by rw [runC_snoc hrk hy, if_pos hk9], h3⟩, by rw [e9], rfl⟩)
  have e9 : (cs.take (k + 1)).any (touchV q) = touchV q y := by rw [anyV_snoc _ hy, h1t]; rfl
  refine op_rg Y Wh (p_load_agg (cs := #[_, _, _, _, _, _, _]) isAgg30 sizeOf30 Y Wb (by rfl)) rfl rfl ?_
  refine op_rg Y Wh (p_load_agg (cs := #[_, _, _, _, _, _, _, _, _, _]) isAgg55 sizeOf55 Y Wb (by rfl)) rfl rfl ?_
  refine Xr [_, _] Y call13 Y rfl (touches_spec q y) ?_
  rw [show (decide (ValidQ q) && (decide y.ok && touchQ q y)) = touchV q y by rw [decide_eq_true hq]; rfl]
  refine Zv (p_pick_f Y Y) <| Za Y <| Z0 <| Zx <| Zq <| Zg <| Za Y <| Z0 <| Zn [3, 4, 6, 9, 11, 18, 19, 20] ?_
  refine Zx <| Zq <| Zg <| Zo Wh (p_load_agg (cs := #[_, _, _, _, _, _, _]) isAgg30 sizeOf30 Y Wb (by rfl)) ?_
  refine Zo Wh (p_load_agg (cs := #[_, _, _]) isAgg40 sizeOf40 Y Wb (by rfl)) ?_
  refine Zo Wh (p_load_agg (cs := #[_, _, _, _, _, _, _, _, _, _]) isAgg55 sizeOf55 Y Wb (by rfl)) ?_
  refine Zc [_, _, _] Y call75 Y rfl (patch_spec q hq h7 y hUk (by omega) (by omega)) ?_
  rintro _ _ ⟨_, ⟨rv3, s3, rfl, h3, rfl⟩, rfl⟩
  obtain ⟨g3, c3, rfl⟩ := h3.form
  refine Zm Y <| Zd Y rfl <| Zd Y rfl <| Xe (w_store_agg sizeOf40 Y Y (by (simp [Value.oneCell']; done)) Wu (by exact (rfl : _ = (#[.slice g3 (stepT q y rk).1.rows.length c3, .int .i64 (stepT q y rk).1.val, .bool (stepT q y rk).1.fnd] : Array Value))) (by first | rfl | (simp; done)) Wb (by exact free_zero _)) ?_
  refine Za Y <| Z0 <| Zx <| Zq <| Zg <| Zm Y <| Zv (p_not Y) <| Z0 <| Zx ?_
  refine at_if_bool Y (fun hok => ?_) (fun hok => ?_)
  ·
   have hk9 : (stepT q y rk).2 = false := by simpa using hok
   have e8 : applyT q r cs = (ResM.none, true, false) := by unfold applyT; rw [runC_none (k := k + 1) (by rw [runC_snoc hrk hy, hk9]; rfl)]
   refine Zq <| at_nil ?_
   refine Zg <| Zv (p_build (vs := []) (cs := #[_, _, _]) Y (run_build_struct (pl := #[(0, 1), (1, 1), (2, 1)]) zeroValue40 underlying40 (fun _ => by kernel_rfl) rfl)) ?_
   refine Xe (w_store_agg sizeOf40 Y Y (by (simp [Value.oneCell']; done)) Wu (by rfl) (by first | rfl | (simp; done)) Wb (by exact free_zero _)) ?_
   refine Za Y <| Za Y <| Z0 <| Zn [6, 7, 8] ?_
   refine Zx <| at_ret <| nx_block_ret <| Zt <| Zt <| nx_block_ret <| Zt ?_
   refine nx_endctt rfl results36 Y Wh (loadVar_agg isAgg40 sizeOf40 Wn (rfl)) Y Y (by exact ⟨.slice none 0 0, [], by rw [e8]; rfl, by rw [e8]; exact rowS_nil 5 _, rfl⟩)
  have hk9 : (stepT q y rk).2 = true := by simpa using hok
  refine at_skip <| nx_block_normal <| Zx <| Zg <| Ya (n := 1) Y Y <| Zm Y <| Z0 <| Zn [9, 20, 3, 4, 6, 18, 19] ?_
  refine nx_againB (e' := [(9, _), (20, _)]) (m := _) (H' := _) (by exact ⟨k + 1, (stepT q y rk).1, g3, c3, s3, rfl, ⟨by omega, by rw [runC_snoc hrk hy, if_pos hk9], h3⟩, by rw [e9], rfl⟩)
 have ek : k = cs.length := by omega
 subst ek
 rw [List.take_length] at hrk ⊢
 have e8 : applyT q r cs = (rk, cs.any (touchV q), true) := by unfold applyT; rw [hrk]
 refine at_exit <| Zt <| Zt <| nx_block_exit <| Zx <| Zq <| Zg <| Zo Wh (p_load_agg (cs := #[_, _, _]) isAgg40 sizeOf40 Y Wb (by rfl)) ?_
 refine Zm Y <| Xe (w_store_agg sizeOf40 Y Y (by (simp [Value.oneCell']; done)) Wu (by rfl) (by first | rfl | (simp; done)) Wb (by exact free_zero _)) ?_
 refine Za Y <| Za Y <| Z0 <| Zx <| at_ret ?_
 refine nx_endctt rfl results36 Y Wh (loadVar_agg isAgg40 sizeOf40 Wn (rfl)) Y Y (by exact ⟨.slice gk _ ck, sk, by rw [e8]; rfl, by rw [e8]; exact hsk, rfl⟩)

end Go.Proofs.YtkgmgmkbgnkdnaaGreatDoor
