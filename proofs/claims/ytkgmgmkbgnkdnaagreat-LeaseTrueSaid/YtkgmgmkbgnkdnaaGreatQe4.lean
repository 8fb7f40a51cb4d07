/- predicate.kinds, Touches. -/
import Derived.Test.YtkgmgmkbgnkdnaaGreatEz
import Derived.Test.YtkgmgmkbgnkdnaaGreatQe3
namespace Go.Proofs.YtkgmgmkbgnkdnaaGreat
open Go.Proofs.Tryz
open Go Go.RowKit Gw
set_option linter.unusedVariables false
set_option linter.unusedSimpArgs false
set_option maxRecDepth 100000
attribute [local irreducible] Gw.At Gw.Nx Gw.Ops
def kindsL (b5 b6 : Nat) : List (Int × Value) := [(1, .agg #[.func (.func 41) #[] #[], .func (.func 42) #[] #[]]), (2, .agg #[.func (.func 41) #[] #[], .func (.func 42) #[] #[]]), (3, .agg #[.func (.func 43) #[] #[], .func (.func 44) #[] #[]]), (4, .agg #[.func (.func 45) #[] #[], .func (.func 46) #[] #[]]), (5, .agg #[.func (.func 47) #[] #[], .func (.func 82) #[] #[.pointer (some ⟨b5, 0, none⟩)]]), (6, .agg #[.func (.func 50) #[] #[], .func (.func 82) #[] #[.pointer (some ⟨b6, 0, none⟩)]]), (7, .agg #[.func (.func 52) #[] #[], .func (.func 53) #[] #[]])]
theorem kinds_no {lm : List (Int × Value)} {b5 b6 : Nat} (h : ∀ p, p ∈ lm ↔ p ∈ kindsL b5 b6) (hn : (lm.map (·.1)).Nodup) {k : Int} {v : Value} (hk : (k, v) ∈ kindsL b5 b6) : mget k lm = some v := mget_mem hn ((h _).2 hk)
def kindF (k : Int) : Nat := if k = 1 then 41 else if k = 2 then 41 else if k = 3 then 43 else if k = 4 then 45 else if k = 5 then 47 else if k = 6 then 50 else 52
theorem kinds_at {lm : List (Int × Value)} {b5 b6 : Nat} (h : ∀ p, p ∈ lm ↔ p ∈ kindsL b5 b6) (hn : (lm.map (·.1)).Nodup) {k : Int} (hk : 1 ≤ k ∧ k ≤ 7) : ∃ pf, mget k lm = some (.agg #[.func (.func (kindF k)) #[] #[], pf]) := by
  obtain h9 | h9 | h9 | h9 | h9 | h9 | h9 : k = 1 ∨ k = 2 ∨ k = 3 ∨ k = 4 ∨ k = 5 ∨ k = 6 ∨ k = 7 := by omega
  all_goals subst h9
  all_goals exact ⟨_, kinds_no h hn (by simp [kindsL, kindF]; rfl)⟩

theorem extreme_spec (v : Value) (h1 : v.oneCell' = true) (hc : v.cells = #[v]) : Does Tryz.prog 48 #[v] [] (fun r H' => ∃ b, r = .func (.func 82) #[] #[.pointer (some ⟨b, 0, none⟩)] ∧ H' = [[(b, .cells #[v] 100 (0, 0))]]) := by
 refine spec_enter func48 rfl ntmps48 rfl ?_
 intro u R
 refine Zb [0] ?_
 refine Zq <| Zg <| Ze (w_box Y (cs := #[v]) hc) ?_
 rintro _ _ ⟨b, rfl, rfl⟩
 refine Za Y <| Z0 <| Zx <| Zq <| Zg <| Zv (p_makeFunc (vs := []) (us := [_]) Y Y) ?_
 refine Za Y <| Z0 <| Zx <| at_ret ?_
 refine nx_end1 rfl results48 Y (by exact ⟨b, rfl, rfl⟩)

theorem kinds_spec : Does Tryz.prog 26 #[] [] (fun v H' => ∃ b es ck lm b5 b6, v = .map (some b) ∧ MapM (fun k : Int => .int .i64 k) es ck lm ∧ (∀ p, p ∈ lm ↔ p ∈ kindsL b5 b6) ∧ H' = [[(b, .map es ck)], [(b5, .cells #[.func (.func 49) #[] #[]] 100 (0, 0))], [(b6, .cells #[.func (.func 51) #[] #[]] 100 (0, 0))]]) := by
 refine spec_enter func26 rfl ntmps26 rfl ?_
 intro u R
 refine Zb [] ?_
 refine Zq <| Zg <| Za Y <| Z0 <| Zx <| Zq <| Zg <| Ze (w_makeMap) ?_
 rintro _ _ ⟨mb, rfl, rfl⟩
 refine Zv (p_build (vs := [(0, .func (.func 41) #[] #[]), (1, .func (.func 42) #[] #[])]) (cs := #[.func (.func 41) #[] #[], .func (.func 42) #[] #[]]) Y (run_build_struct (pl := #[(0, 1), (1, 1)]) zeroValue81 underlying81 (fun _ => by kernel_rfl) (by kernel_rfl))) ?_
 refine Ze (w_insert intKey underlying82 (mapM_new _) (fun _ _ => trivial) (trivial) Y Y Y (by repeat (first | exact One.here _ _ | apply One.there))) ?_
 rintro _ _ ⟨rfl, es1, ck1, lm1, hm1, hp1, rfl⟩
 refine Zv (p_build (vs := [(0, .func (.func 41) #[] #[]), (1, .func (.func 42) #[] #[])]) (cs := #[.func (.func 41) #[] #[], .func (.func 42) #[] #[]]) Y (run_build_struct (pl := #[(0, 1), (1, 1)]) zeroValue81 underlying81 (fun _ => by kernel_rfl) (by kernel_rfl))) ?_
 refine Ze (w_insert intKey underlying82 hm1 (fun _ _ => trivial) (trivial) Y Y Y (by repeat (first | exact One.here _ _ | apply One.there))) ?_
 rintro _ _ ⟨rfl, es2, ck2, lm2, hm2, hp2, rfl⟩
 refine Zv (p_build (vs := [(0, .func (.func 43) #[] #[]), (1, .func (.func 44) #[] #[])]) (cs := #[.func (.func 43) #[] #[], .func (.func 44) #[] #[]]) Y (run_build_struct (pl := #[(0, 1), (1, 1)]) zeroValue81 underlying81 (fun _ => by kernel_rfl) (by kernel_rfl))) ?_
 refine Ze (w_insert intKey underlying82 hm2 (fun _ _ => trivial) (trivial) Y Y Y (by repeat (first | exact One.here _ _ | apply One.there))) ?_
 rintro _ _ ⟨rfl, es3, ck3, lm3, hm3, hp3, rfl⟩
 refine Zv (p_build (vs := [(0, .func (.func 45) #[] #[]), (1, .func (.func 46) #[] #[])]) (cs := #[.func (.func 45) #[] #[], .func (.func 46) #[] #[]]) Y (run_build_struct (pl := #[(0, 1), (1, 1)]) zeroValue81 underlying81 (fun _ => by kernel_rfl) (by kernel_rfl))) ?_
 refine Ze (w_insert intKey underlying82 hm3 (fun _ _ => trivial) (trivial) Y Y Y (by repeat (first | exact One.here _ _ | apply One.there))) ?_
 rintro _ _ ⟨rfl, es4, ck4, lm4, hm4, hp4, rfl⟩
 refine Zc [_] Y call48 Y rfl (extreme_spec (.func (.func 49) #[] #[]) rfl rfl) ?_
 rintro _ _ ⟨_, ⟨b5, rfl, rfl⟩, rfl⟩
 refine Zv (p_build (vs := [(0, .func (.func 47) #[] #[]), (1, .func (.func 82) #[] #[.pointer (some ⟨b5, 0, none⟩)])]) (cs := #[.func (.func 47) #[] #[], .func (.func 82) #[] #[.pointer (some ⟨b5, 0, none⟩)]]) Y (run_build_struct (pl := #[(0, 1), (1, 1)]) zeroValue81 underlying81 (fun _ => by kernel_rfl) (by kernel_rfl))) ?_
 refine Ze (w_insert intKey underlying82 hm4 (fun _ _ => trivial) (trivial) Y Y Y (by repeat (first | exact One.here _ _ | apply One.there))) ?_
 rintro _ _ ⟨rfl, es5, ck5, lm5, hm5, hp5, rfl⟩
 refine Zc [_] Y call48 Y rfl (extreme_spec (.func (.func 51) #[] #[]) rfl rfl) ?_
 rintro _ _ ⟨_, ⟨b6, rfl, rfl⟩, rfl⟩
 refine Zv (p_build (vs := [(0, .func (.func 50) #[] #[]), (1, .func (.func 82) #[] #[.pointer (some ⟨b6, 0, none⟩)])]) (cs := #[.func (.func 50) #[] #[], .func (.func 82) #[] #[.pointer (some ⟨b6, 0, none⟩)]]) Y (run_build_struct (pl := #[(0, 1), (1, 1)]) zeroValue81 underlying81 (fun _ => by kernel_rfl) (by kernel_rfl))) ?_
 refine Ze (w_insert intKey underlying82 hm5 (fun _ _ => trivial) (trivial) Y Y Y (by repeat (first | exact One.here _ _ | apply One.there))) ?_
 rintro _ _ ⟨rfl, es6, ck6, lm6, hm6, hp6, rfl⟩
 refine Zv (p_build (vs := [(0, .func (.func 52) #[] #[]), (1, .func (.func 53) #[] #[])]) (cs := #[.func (.func 52) #[] #[], .func (.func 53) #[] #[]]) Y (run_build_struct (pl := #[(0, 1), (1, 1)]) zeroValue81 underlying81 (fun _ => by kernel_rfl) (by kernel_rfl))) ?_
 refine Ze (w_insert intKey underlying82 hm6 (fun _ _ => trivial) (trivial) Y Y Y (by repeat (first | exact One.here _ _ | apply One.there))) ?_
 rintro _ _ ⟨rfl, es7, ck7, lm7, hm7, hp7, rfl⟩
 refine Zm Y <| Za Y <| Z0 <| Zn [0] ?_
 refine Zx <| at_ret ?_
 refine nx_end1 rfl results26 Y (by
       refine ⟨mb, es7, ck7, lm7, b5, b6, rfl, hm7, fun p => ?_, rfl⟩
       rw [hp7, hp6, hp5, hp4, hp3, hp2, hp1]
       simp only [kindsL, List.mem_cons, List.not_mem_nil, or_false, false_and]
       constructor
       · rintro (rfl | ⟨rfl | ⟨rfl | ⟨rfl | ⟨rfl | ⟨rfl | ⟨rfl, -⟩, -⟩, -⟩, -⟩, -⟩, -⟩) <;> simp
       · rintro (h | h | h | h | h | h | h) <;> subst h <;> simp)

theorem kind_touch (q : QM) (c : Chg) (hq : ValidQ q) {p1 p2 : Option Addr} {s1 s2 : List Chunk} (h1 : PtrRow p1 (bfQ q c) s1) (h2 : PtrRow p2 (afQ q c) s2) : DoesR Tryz.prog (kindF q.kd) #[.agg #[.int .i64 q.kd, .int .i64 q.tb, .int .i64 q.cl, .int .i64 q.lo, .int .i64 q.hi, .int .i64 q.bq, .int .i64 q.ot, .int .i64 c.t, .int .i64 c.k, .bool c.had, .int .i64 c.o.a, .int .i64 c.o.b, .int .i64 c.o.c, .bool c.has, .int .i64 c.n.a, .int .i64 c.n.b, .int .i64 c.n.c, .pointer p1, .pointer p2, .int .i64 (mQ q (bfQ q c)), .int .i64 (mQ q (afQ q c))]] [] (.bool (touchQ q c)) := by
  have e1 := h1.some_
  have e2 := h2.some_
  have hk : q.kd = 1 ∨ q.kd = 2 ∨ q.kd = 3 ∨ q.kd = 4 ∨ q.kd = 5 ∨ q.kd = 6 ∨ q.kd = 7 := by have := hq.2.2.2; omega
  have ha := any_spec q c p1 p2 (mQ q (bfQ q c)) (mQ q (afQ q c))
  have ho := one_spec q c p1 p2 (mQ q (bfQ q c)) (mQ q (afQ q c))
  have h4 := k1_spec q c p1 p2 (mQ q (bfQ q c)) (mQ q (afQ q c))
  have h5 := k2_spec q c p1 p2 (mQ q (bfQ q c)) (mQ q (afQ q c))
  have h6 := k4_spec q c p1 p2 (mQ q (bfQ q c)) (mQ q (afQ q c))
  have h7 := k6_spec q c p1 p2 (mQ q (bfQ q c)) (mQ q (afQ q c))
  rw [e1, e2] at ha ho h5 h6 h7
  rcases hk with h | h | h | h | h | h | h
  · rw [show kindF q.kd = 41 by rw [h]; rfl, show touchQ q c = anyQ q c by unfold touchQ; rw [if_pos (by omega)]]; exact ha
  · rw [show kindF q.kd = 41 by rw [h]; rfl, show touchQ q c = anyQ q c by unfold touchQ; rw [if_pos (by omega)]]; exact ha
  · rw [show kindF q.kd = 43 by rw [h]; rfl, show touchQ q c = oneQ q c by unfold touchQ; rw [if_neg (by omega), if_pos (by omega)]]; exact ho
  · rw [show kindF q.kd = 45 by rw [h]; rfl, show touchQ q c = decide (mQ q (bfQ q c) ≠ mQ q (afQ q c)) by unfold touchQ; rw [if_neg (by omega), if_neg (by omega), if_pos (by omega)]]; exact h4
  · rw [show kindF q.kd = 47 by rw [h]; rfl, show touchQ q c = (oneQ q c || decide (mQ q (bfQ q c) ≠ mQ q (afQ q c))) by unfold touchQ; rw [if_neg (by omega), if_neg (by omega), if_neg (by omega), if_pos (by omega)]]; exact h5
  · rw [show kindF q.kd = 50 by rw [h]; rfl, show touchQ q c = (oneQ q c || decide (mQ q (bfQ q c) ≠ mQ q (afQ q c))) by unfold touchQ; rw [if_neg (by omega), if_neg (by omega), if_neg (by omega), if_pos (by omega)]]; exact h6
  · rw [show kindF q.kd = 52 by rw [h]; rfl, show touchQ q c = (anyQ q c || decide (c.t = q.ot)) by unfold touchQ; rw [if_neg (by omega), if_neg (by omega), if_neg (by omega), if_neg (by omega)]]; exact h7
theorem kind_call {k : Int} (hk : 1 ≤ k ∧ k ≤ 7) : ∀ (args : Array Value) (w : World), (callFunc (kindF k) args).run Tryz.prog w = .ok (.enter (kindF k) args) w := by
  obtain h | h | h | h | h | h | h : k = 1 ∨ k = 2 ∨ k = 3 ∨ k = 4 ∨ k = 5 ∨ k = 6 ∨ k = 7 := by omega
  all_goals (subst h; simp only [kindF]; first | exact call41 | exact call43 | exact call45 | exact call47 | exact call50 | exact call52)
theorem ValidQ.kind {q : QM} (h : ValidQ q) : 1 ≤ q.kd ∧ q.kd ≤ 7 := by have := h.2.2.2; omega

theorem touches_spec (q : QM) (c : Chg) : DoesR Tryz.prog 9 #[.agg #[.int .i64 q.kd, .int .i64 q.tb, .int .i64 q.cl, .int .i64 q.lo, .int .i64 q.hi, .int .i64 q.bq, .int .i64 q.ot], .agg #[.int .i64 c.t, .int .i64 c.k, .bool c.had, .int .i64 c.o.a, .int .i64 c.o.b, .int .i64 c.o.c, .bool c.has, .int .i64 c.n.a, .int .i64 c.n.b, .int .i64 c.n.c]] [] (.bool (decide (ValidQ q) && (decide c.ok && touchQ q c))) := by
 refine spec_enter func9 rfl ntmps9 rfl ?_
 intro u R
 refine Zb [0, 1] ?_
 refine Zq <| Zg <| Ze (w_box Y (cs := #[_, _, _, _, _, _, _]) rfl) ?_
 rintro _ _ ⟨pq, rfl, rfl⟩
 refine Ze (w_box Y (cs := #[_, _, _, _, _, _, _, _, _, _]) rfl) ?_
 rintro _ _ ⟨pc, rfl, rfl⟩
 refine Za Y <| Z0 <| Zx <| Zq <| at_draw (n := 18) (0 :: 1 :: 3 :: 7 :: 15 :: 31 :: 63 :: 127 :: 127 :: 383 :: 1023 :: 2047 :: 127 :: 127 :: 12543 :: 32767 :: 65535 :: 131071 :: []) 49298 (by kernel_rfl) (by kernel_rfl) rfl ?_
 refine lin_r (D' := 1) 0 rfl rfl rfl (by repeat (first | exact Has.here _ | apply Has.there)) (p_load_agg (cs := #[_, _, _, _, _, _, _]) isAgg29 sizeOf29 Y (by first | omega | decide | (simp; done)) (by rfl)) ?_
 refine Zz (l := [1]) ?_
 refine Zy 1 3 [0] [false] [] rfl Y rfl rfl rfl rfl (Zu [_] Y call24 Y rfl (q_valid q)) ?hk_1 (fun _ _ h => h.elim) ?hl_1
 case hk_1 =>
  rintro _ _ ⟨rfl, rfl⟩
  refine ⟨keep_nil, ?_⟩
  refine Zi 7 2 rfl (p_move Y) ?_
  refine lin_split_bool (t := 7) Y (fun h1 => ?_) (fun h1 => ?_)
  ·
   first | rw [decide_eq_true h1] | rw [h1] | skip
   refine lin_rg (D' := 15) 3 Y rfl rfl rfl (by repeat (first | exact Has.here _ | apply Has.there)) (p_load_agg (cs := #[_, _, _, _, _, _, _, _, _, _]) isAgg40 sizeOf40 Y (by first | omega | decide | (simp; done)) (by rfl)) ?_
   refine Zz (l := [4]) ?_
   refine Zy 15 31 [3] [false] [] rfl Y rfl rfl rfl rfl (Zu [_] Y call25 Y rfl (rw_validc c)) ?hk_2 (fun _ _ h => h.elim) ?hl_2
   case hk_2 =>
    rintro _ _ ⟨rfl, rfl⟩
    refine ⟨keep_nil, ?_⟩
    refine Zi 63 5 rfl (p_pick_t Y Y) <| Zi 127 6 rfl (p_move Y) ?_
    refine lin_split_bool (t := 11) Y (fun h2 => ?_) (fun h2 => ?_)
    ·
     first | rw [decide_eq_true h2] | rw [h2] | skip
     refine lin_wg (D' := 383) 8 Y rfl rfl rfl (p_fieldAddr0 (off := 0) underlying29 rfl rfl sizeOf3 Y) ?_
     refine lin_rg (D' := 895) 9 Y rfl rfl rfl (by repeat (first | exact Has.here _ | apply Has.there)) (p_load isAgg3 Y (by rfl)) ?_
     refine lin_rg (D' := 4991) 12 Y rfl rfl rfl (by repeat (first | exact Has.here _ | apply Has.there)) (p_load_agg (cs := #[_, _, _, _, _, _, _]) isAgg29 sizeOf29 Y (by first | omega | decide | (simp; done)) (by rfl)) ?_
     refine lin_rg (D' := 13183) 13 Y rfl rfl rfl (by repeat (first | exact Has.here _ | apply Has.there)) (p_load_agg (cs := #[_, _, _, _, _, _, _, _, _, _]) isAgg40 sizeOf40 Y (by first | omega | decide | (simp; done)) (by rfl)) ?_
     refine Zz (l := [7]) ?_
     refine Zy 127 13311 [13, 12, 9] [true, true, true] [(13, (_, _)), (12, (_, _)), (9, (_, _))] rfl Y rfl rfl rfl rfl (Zw [] Y call26 Y rfl (kinds_spec)) ?hk_3 no_pan ?hl_3
     case hk_3 =>
      rintro _ _ ⟨_, ⟨mb, es, ck, lm, b5, b6, rfl, hm, hp, rfl⟩, rfl⟩
      refine ⟨Zk (Zk (Zk (keep_nil))), ?_⟩
      have hq : ValidQ q := of_decide_eq_true h1
      obtain ⟨pf, hget⟩ := kinds_at hp hm.keys hq.kind
      refine lin_rg (D' := 14335) 10 Y rfl rfl rfl (by repeat (first | exact Has.here _ | apply Has.there)) (p_lookup1 intKey underlying82 zeroValue81 hm (fun _ _ => trivial) (trivial) ((by rw [hget]; exact rfl : _ = Value.agg #[.func (.func (kindF q.kd)) #[] #[], pf])) Y Y) ?_
      refine lin_wg (D' := 16383) 11 Y rfl rfl rfl (p_field underlying81 rfl isAgg78 Y rfl) ?_
      refine Zz (l := [14]) ?_
      refine Zy 12543 32767 [10, 13, 12, 9] [true, false, false, true] [(10, (_, _)), (9, (_, _))] rfl Y rfl rfl rfl rfl (Zw [_, _] Y call27 Y rfl (effect_spec q hq.2.1 (by have := hq.2.2.2; omega) c)) ?hk_4 no_pan ?hl_4
      case hk_4 =>
       rintro _ _ ⟨_, ⟨p1, p2, s1, s2, rfl, hP1, hP2, rfl⟩, rfl⟩
       refine ⟨Zk (Zk (keep_nil)), ?_⟩
       refine Zz (l := [15]) ?_
       refine Zy 32767 65535 [10, 9] [false, false] [] rfl Y rfl rfl rfl rfl (Zu [_] Y (kind_call hq.kind) Y rfl (kind_touch q c hq hP1 hP2)) ?hk_5 (fun _ _ h => h.elim) ?hl_5
       case hk_5 =>
        rintro _ _ ⟨rfl, rfl⟩
        refine ⟨keep_nil, ?_⟩
        refine Zi 131071 16 rfl (p_pick_t Y Y) <| Zi 262143 17 rfl (p_assign Y) <| lin_nil ?_
        refine Zn [4] ?_
        refine Zx <| at_ret ?_
        refine nx_end1 rfl results9 Y (by exact ⟨by first | simp [h1, h2] | simp [h1], rfl⟩)
       case hl_5 =>
        exact each_nil
      case hl_4 =>
       exact each_nil
     case hl_3 =>
      exact each_nil
    ·
     first | rw [decide_eq_false h2] | rw [h2] | skip
     refine Yk 255 7 rfl <| Yk 511 8 rfl <| Yk 1023 9 rfl <| Yk 2047 10 rfl <| Yk 4095 11 rfl <| Yk 8191 12 rfl <| Yk 16383 13 rfl <| Yk 32767 14 rfl <| Yk 65535 15 rfl <| Zi 131071 16 rfl (p_pick_f Y Y) <| Zi 262143 17 rfl (p_assign Y) <| lin_nil ?_
     refine Zn [4] ?_
     refine Zx <| at_ret ?_
     refine nx_end1 rfl results9 Y (by exact ⟨by first | simp [h1, h2] | simp [h1], rfl⟩)
   case hl_2 =>
    exact each_nil
  ·
   first | rw [decide_eq_false h1] | rw [h1] | skip
   refine Yk 15 3 rfl <| Yk 31 4 rfl <| Zi 63 5 rfl (p_pick_f Y Y) <| Zi 127 6 rfl (p_move Y) <| Yk 255 7 rfl <| Yk 511 8 rfl <| Yk 1023 9 rfl <| Yk 2047 10 rfl <| Yk 4095 11 rfl <| Yk 8191 12 rfl <| Yk 16383 13 rfl <| Yk 32767 14 rfl <| Yk 65535 15 rfl <| Zi 131071 16 rfl (p_pick_f Y Y) <| Zi 262143 17 rfl (p_assign Y) <| lin_nil ?_
   refine Zn [4] ?_
   refine Zx <| at_ret ?_
   refine nx_end1 rfl results9 Y (by exact ⟨by first | simp [h1, h2] | simp [h1], rfl⟩)
 case hl_1 =>
  exact each_nil

end Go.Proofs.YtkgmgmkbgnkdnaaGreat
