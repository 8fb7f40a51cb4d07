/- The lease table, in chunks. -/
/- Queries: their results on a state, and which changes touch them. -/
/- query.Valid. -/
import Derived.Test.YtkgmgmkbgnkdnaaGreatDoorEz
import Derived.Test.YtkgmgmkbgnkdnaaGreatDoorEx26
import Derived.Test.YtkgmgmkbgnkdnaaGreatDoorEx25
import Derived.Test.YtkgmgmkbgnkdnaaGreatDoorProg
import Derived.Test.YtkgmgmkbgnkdnaaGreatDoorTr2

namespace Go.Proofs.YtkgmgmkbgnkdnaaGreatDoor
open Go.Proofs.Tryz
open Go Go.RowKit Gw
set_option linter.unusedVariables false
set_option linter.unusedSimpArgs false
set_option maxRecDepth 100000
attribute [local irreducible] Gw.At Gw.Nx Gw.Ops
section
variable {tp mb : Nat} {es : Array MapEntry} {ck : Nat} {lm : List (ByteArray × Value)}

theorem lnew_spec : Does Tryz.prog 11 #[] [] (fun r H' => ∃ tp mb, r = .pointer (some ⟨tp, 0, none⟩) ∧ H' = [[(tp, .cells #[.map (some mb), .int .i64 0] 99 (0, 0))], [(mb, .map #[] 0)]]) := by
 refine spec_enter func11 rfl ntmps11 rfl ?_
 intro u R
 refine Zb [] ?_
 refine Zq <| Zg <| Za Y <| Z0 <| Zx <| Zq <| Zg <| Ze (w_makeMap) ?_
 rintro _ _ ⟨mb, rfl, rfl⟩
 refine Zv (p_build (vs := [(0, _)]) (cs := #[_, _]) Y (run_build_struct (pl := #[(0, 1), (1, 1)]) zeroValue99 underlying99 (fun _ => by kernel_rfl) rfl)) ?_
 refine Ze (w_box Y (cs := #[_, _]) rfl) ?_
 rintro _ _ ⟨tp, rfl, rfl⟩
 refine Za Y <| Z0 <| Zx <| at_ret ?_
 refine nx_end1 rfl results11 Y (by exact ⟨tp, mb, rfl, rfl⟩)

theorem ltime_spec (now : Int) : DoesR Tryz.prog 38 #[.int .i64 now] [] (.bool (decide (0 ≤ now ∧ now ≤ 4611686018427387903))) := by
 refine spec_enter func38 rfl ntmps38 rfl ?_
 intro u R
 refine Zb [0] ?_
 refine Zq <| Zg <| Za Y <| Z0 <| Zx <| Zq <| Zg <| Zm Y <| Zv (p_geq Y Y) <| Zm Y ?_
 refine ops_split (t := 5) Y rfl (fun h1 => ?_) (fun h1 => ?_)
 ·
  refine Zf Y Y <| Yg (p_leq Y Y) <| Zv (p_pick_t Y Y) <| Za Y <| Z0 <| Zx <| at_ret ?_
  refine nx_end1 rfl results38 Y (by exact ⟨congrArg Value.bool (by simp [h1]), rfl⟩)
 refine op_skip Y rfl <| op_skip Y rfl <| Zv (p_pick_f Y Y) <| Za Y <| Z0 <| Zx <| at_ret ?_
 refine nx_end1 rfl results38 Y (by exact ⟨congrArg Value.bool (by simp [h1]), rfl⟩)

theorem lof_spec (K : ByteArray) (n : Int) (hm : MapM (fun k : ByteArray => Value.string k) es ck lm) : DoesR Tryz.prog 37 #[.pointer (some ⟨tp, 0, none⟩), .string K] [[(tp, .cells #[.map (some mb), .int .i64 n] 99 (0, 0))], [(mb, .map es ck)]] ((mget K lm).getD (.pointer none)) := by
 refine spec_enter func37 rfl ntmps37 rfl ?_
 intro u R
 refine Zb [0, 1] ?_
 refine Zq <| Zg <| Za Y <| Z0 <| Zx <| Zq <| Zq <| Zg <| Zm Y <| Zv (p_eql_ptr_nil underlying45 Y Y) <| Z0 <| Zx ?_
 refine at_if_bool Y (fun hb9 => ?_) (fun hb9 => ?_)
 ·
  cases hb9
 refine at_skip <| Zx <| Zq <| Zg <| Zm Y <| Zp Y rfl <| Zh 0 underlying99 rfl rfl sizeOf97 Y <| Zl isAgg97 Y ?_
 refine Zm Y <| Zo Wh (p_lookup1 (strKeyOk underlying9 (D := fun _ => True)) underlying97 zeroValue100 hm (fun _ _ => trivial) (trivial) (rfl) Y Y) ?_
 refine Za Y <| Z0 <| Zx <| at_ret ?_
 refine nx_end1 rfl results37 Y (by exact ⟨rfl, rfl⟩)

theorem lask_spec (K : ByteArray) (n now : Int) (hm : MapM (fun k : ByteArray => Value.string k) es ck lm) (hg : mget K lm = none) (hn : 0 ≤ n ∧ n ≤ 1000000) (ht : 0 ≤ now ∧ now ≤ 4611686018427387903) : Does Tryz.prog 12 #[.pointer (some ⟨tp, 0, none⟩), .string K, .int .i64 now] [[(tp, .cells #[.map (some mb), .int .i64 n] 99 (0, 0))], [(mb, .map es ck)]] (fun r H' => ∃ lp es' ck' lm', r = .tuple #[.int .i64 (n + 1), .bool true] ∧ MapM (fun k : ByteArray => Value.string k) es' ck' lm' ∧ (∀ p, p ∈ lm' ↔ p = (K, .pointer (some ⟨lp, 0, none⟩)) ∨ (p ∈ lm ∧ p.1 ≠ K)) ∧ H' = [[(tp, .cells #[.map (some mb), .int .i64 (n + 1)] 99 (0, 0))], [(mb, .map es' ck')], [(lp, .cells #[.int .i64 (n + 1), .int .i64 now, .int .i64 0] 104 (0, 0))]]) := by
 refine spec_enter func12 rfl ntmps12 rfl ?_
 intro u R
 refine Zb [0, 1, 2] ?_
 refine Zq <| Zg <| Za Y <| Za Y <| Z0 <| Zx <| Zq <| Zq <| Zg <| Zm Y <| Zm Y <| Xr [_, _] Y call37 Y rfl (lof_spec K n hm) ?_
 rw [hg, Option.getD_none]
 refine Za Y <| Z0 <| Zx <| Zq <| Zg <| Zm Y <| Zv (p_eql_ptr_nil underlying45 Y Y) <| Zm Y ?_
 refine ops_split_bool (t := 14) Y rfl (fun hb9 => ?_) (fun hb9 => ?_)
 ·
  cases hb9
 refine Zf Y Y <| Xr [_] Y call38 Y rfl (ltime_spec now) ?_
 rw [decide_eq_true ht]
 refine Yg (p_not Y) <| Zv (p_pick_f Y Y) <| Zm Y ?_
 refine ops_split_bool (t := 19) Y rfl (fun hb9 => ?_) (fun hb9 => ?_)
 ·
  cases hb9
 refine Zf Y Y <| Yg (p_neq_nil_nil underlying100 Y Y) <| Zf Y Y ?_
 refine ops_split_bool (t := 22) Y rfl (fun hb9 => ?_) (fun hb9 => ?_)
 ·
  cases hb9
 refine op_skip Y rfl <| op_skip Y rfl <| op_skip Y rfl <| op_skip Y rfl <| Yg (p_pick_f Y Y) <| Zv (p_pick_f Y Y) <| Z0 <| Zn [0, 1, 2, 28] ?_
 refine Zx <| at_else Y <| at_skip <| Zx <| Zq <| Zg <| Zm Y <| Zp Y rfl <| Zh 1 underlying99 rfl rfl sizeOf3 Y <| Zl isAgg3 Y ?_
 refine Yi Y Y <| Zp Y rfl <| Zh 1 underlying99 rfl rfl sizeOf3 Y <| Xe (Zs sizeOf3 Y Y rfl (hi := by first | omega | decide | (simp; done))) ?_
 refine Z0 <| Zx <| Zq <| at_draw (n := 13) (0 :: 1 :: 3 :: 7 :: 0 :: 0 :: 32 :: 96 :: 224 :: 0 :: 992 :: 2016 :: 4095 :: []) 6144 (by kernel_rfl) (by kernel_rfl) rfl ?_
 refine Zi 1 0 rfl (p_move Y) <| Zi 3 1 rfl (p_nilChk Y rfl) <| Zi 7 2 rfl (p_fieldAddr0 (off := 0) underlying99 rfl rfl sizeOf97 Y) <| Zj 15 3 rfl isAgg97 Y ?_
 refine Zi 31 4 rfl (p_move Y) <| Zi 63 5 rfl (p_move Y) <| Zi 127 6 rfl (p_nilChk Y rfl) <| Zi 255 7 rfl (p_fieldAddr0 (off := 1) underlying99 rfl rfl sizeOf3 Y) <| Zj 511 8 rfl isAgg3 Y ?_
 refine Zi 1023 9 rfl (p_move Y) <| Zi 2047 10 rfl (p_build (vs := [(0, _), (1, _)]) (cs := #[_, _, _]) Y (run_build_struct (pl := #[(0, 1), (1, 1), (2, 1)]) zeroValue104 underlying104 (fun _ => by kernel_rfl) rfl)) ?_
 refine Yz 11 2016 4095 [8, 3] [false, true] [(3, (_, _))] rfl Y rfl rfl rfl rfl (w_box Y (cs := #[_, _, _]) rfl) ?_
 rintro _ _ ⟨lp, rfl, rfl⟩
 refine ⟨Zk (keep_nil), ?_⟩
 refine Yz 12 4095 8191 [3] [false] [] rfl Y rfl rfl rfl rfl (w_mapUpdate (strKeyOk underlying9 (D := fun _ => True)) underlying97 hm (fun _ _ => trivial) (trivial) Y Y Y Wo) ?_
 rintro _ _ ⟨rfl, es2, ck2, lm2, hm2, hp2, rfl⟩
 refine ⟨keep_nil, ?_⟩
 refine lin_nil ?_
 refine Zn [0] ?_
 refine Zx <| Zq <| Zg <| Zm Y <| Zp Y rfl <| Zh 1 underlying99 rfl rfl sizeOf3 Y <| Zl isAgg3 Y ?_
 refine Za Y <| Za Y <| Z0 <| Zx <| at_ret ?_
 refine nx_end2 rfl results12 Y Y (by exact ⟨lp, _, _, _, rfl, hm2, hp2, rfl⟩)

theorem linv_spec (K : ByteArray) (n pos tok beg bar : Int) (lp : Nat) (hm : MapM (fun k : ByteArray => Value.string k) es ck lm) (hg : mget K lm = some (.pointer (some ⟨lp, 0, none⟩))) : Does Tryz.prog 14 #[.pointer (some ⟨tp, 0, none⟩), .string K, .int .i64 pos] [[(tp, .cells #[.map (some mb), .int .i64 n] 99 (0, 0))], [(mb, .map es ck)], [(lp, .cells #[.int .i64 tok, .int .i64 beg, .int .i64 bar] 104 (0, 0))]] (fun r H' => r = undef ∧ H' = [[(tp, .cells #[.map (some mb), .int .i64 n] 99 (0, 0))], [(mb, .map es ck)], [(lp, .cells #[.int .i64 tok, .int .i64 beg, .int .i64 (max bar pos)] 104 (0, 0))]]) := by
 refine spec_enter func14 rfl ntmps14 rfl ?_
 intro u R
 refine Zb [0, 1, 2] ?_
 refine Zq <| Zg <| Zm Y <| Zm Y <| Xr [_, _] Y call37 Y rfl (lof_spec K n hm) ?_
 rw [hg, Option.getD_some]
 refine Za Y <| Z0 <| Zx <| Zq <| Zg <| Zm Y <| Zv (p_neq_ptr_nil underlying100 Y Y) <| Z0 <| Zx ?_
 refine at_if_bool Y (fun hb9 => ?_) (fun hb9 => ?_)
 ·
  refine Zg <| Zm Y <| Zm Y <| Zp Y rfl <| Zh 2 underlying104 rfl rfl sizeOf3 Y <| Zl isAgg3 Y ?_
  refine Zm Y <| Zv (p_max_int Y Y) <| Zp Y rfl <| Zh 2 underlying104 rfl rfl sizeOf3 Y <| Xe (Zs sizeOf3 Y Y rfl (hi := by first | omega | decide | (simp; done))) ?_
  refine Z0 ?_
  refine nx_end0 rfl results14 (by exact ⟨rfl, rfl⟩)
 cases hb9

theorem lfill_spec (K : ByteArray) (n pos tok beg bar : Int) (lp : Nat) (hm : MapM (fun k : ByteArray => Value.string k) es ck lm) (hg : mget K lm = some (.pointer (some ⟨lp, 0, none⟩))) : Does Tryz.prog 15 #[.pointer (some ⟨tp, 0, none⟩), .string K, .int .i64 tok, .int .i64 pos] [[(tp, .cells #[.map (some mb), .int .i64 n] 99 (0, 0))], [(mb, .map es ck)], [(lp, .cells #[.int .i64 tok, .int .i64 beg, .int .i64 bar] 104 (0, 0))]] (fun r H' => ∃ es' ck', r = .bool (decide (bar ≤ pos)) ∧ H' = [[(tp, .cells #[.map (some mb), .int .i64 n] 99 (0, 0))], [(mb, .map es' ck')], [(lp, .cells #[.int .i64 tok, .int .i64 beg, .int .i64 bar] 104 (0, 0))]]) := by
 refine spec_enter func15 rfl ntmps15 rfl ?_
 intro u R
 refine Zb [0, 1, 2, 3] ?_
 refine Zq <| Zg <| Za Y <| Z0 <| Zx <| Zq <| Zg <| Zm Y <| Zm Y <| Xr [_, _] Y call37 Y rfl (lof_spec K n hm) ?_
 rw [hg, Option.getD_some]
 refine Za Y <| Z0 <| Zx <| Zq <| Zq <| Zg <| Zm Y <| Zv (p_eql_ptr_nil underlying100 Y Y) <| Zm Y ?_
 refine ops_split_bool (t := 15) Y rfl (fun hb8 => ?_) (fun hb8 => ?_)
 ·
  cases hb8
 refine Zf Y Y <| Yg (p_nilChk Y rfl) <| Yf 0 underlying104 rfl rfl sizeOf3 Y <| Yl isAgg3 Y ?_
 refine Zf Y Y <| Yg (p_neq Y Y) <| Zv (p_pick_f Y Y) <| Z0 <| Zn [0, 1, 3, 9, 22] ?_
 refine Zx ?_
 refine at_if Y (fun hb9 => ?_) (fun hb9 => ?_)
 ·
  first | exact absurd rfl hb9 | cases hb9
 refine at_skip <| Zx <| Zq <| Zg <| Zm Y <| Zp Y rfl <| Zh 0 underlying99 rfl rfl sizeOf97 Y <| Zl isAgg97 Y ?_
 refine Zm Y <| Ze (w_delete (strKeyOk underlying9 (D := fun _ => True)) underlying97 hm (fun _ _ => trivial) (trivial) Y Y Wo) ?_
 rintro _ _ ⟨rfl, es2, ck2, lm2, hm2, hp2, rfl⟩
 refine Z0 <| Zx <| Zq <| Zg <| Zm Y <| Zm Y <| Zp Y rfl <| Zh 2 underlying104 rfl rfl sizeOf3 Y <| Zl isAgg3 Y ?_
 refine Zv (p_geq Y Y) <| Za Y <| Z0 <| Zn [8] ?_
 refine Zx <| at_ret ?_
 refine nx_end1 rfl results15 Y (by exact ⟨es2, ck2, rfl, rfl⟩)

end

end Go.Proofs.YtkgmgmkbgnkdnaaGreatDoor

namespace Go.Proofs.YtkgmgmkbgnkdnaaGreatDoor
open Go.Proofs.Tryz
open Go Go.RowKit Gw
set_option linter.unusedVariables false
set_option linter.unusedSimpArgs false
set_option maxRecDepth 100000
attribute [local irreducible] Gw.At Gw.Nx Gw.Ops
structure QM where
  kd : Int
  tb : Int
  cl : Int
  lo : Int
  hi : Int
  bq : Int
  ot : Int
deriving DecidableEq
structure ResM where
  rows : List RowM
  val : Int
  fnd : Bool
deriving DecidableEq
def inQ (q : QM) (r : RowM) : Bool := decide (r.t = q.tb ∧ q.lo ≤ valL r q.cl ∧ valL r q.cl ≤ q.hi)
def ValidQ (q : QM) : Prop := (0 ≤ q.tb ∧ q.tb ≤ 3) ∧ (0 ≤ q.cl ∧ q.cl ≤ 3) ∧ (-1000000000 ≤ q.lo ∧ q.lo ≤ q.hi ∧ q.hi ≤ 1000000000) ∧
  ((q.kd = 1 ∧ q.cl = 0 ∧ q.lo = q.hi ∧ (1 ≤ q.lo ∧ q.lo ≤ 1000000) ∧ q.bq = 0 ∧ q.ot = 0) ∨ ((q.kd = 2 ∨ q.kd = 3) ∧ q.bq = 0 ∧ q.ot = 0) ∨
   ((q.kd = 4 ∨ q.kd = 5 ∨ q.kd = 6) ∧ (1 ≤ q.bq ∧ q.bq ≤ 3) ∧ q.ot = 0) ∨ (q.kd = 7 ∧ (1 ≤ q.bq ∧ q.bq ≤ 3) ∧ (0 ≤ q.ot ∧ q.ot ≤ 3)))
instance (q : QM) : Decidable (ValidQ q) := by unfold ValidQ; infer_instance
def ResM.none : ResM := ⟨[], 0, false⟩
def sumT (ms : List Int) : Int := ms.foldl (· + ·) 0
def extT (lt : Int → Int → Bool) (ms : List Int) : ResM := ms.foldl (fun r n => ⟨r.rows, if !r.fnd || lt n r.val then n else r.val, true⟩) ResM.none
def partQ (q : QM) (others : List RowM) (k : Int) : Option RowM := others.find? (fun x => decide (x.t = q.ot ∧ x.k = k))
def pairQ (q : QM) (others : List RowM) (r : RowM) : List RowM := match partQ q others (valL r q.bq) with
  | some x => [r, x]
  | none => []
def joinQ (q : QM) (rows others : List RowM) : List RowM := rows.flatMap (pairQ q others)
def measT (q : QM) (rows : List RowM) : List Int := rows.map fun r => valL r q.bq
def fromQ (q : QM) (rows others : List RowM) : ResM :=
  if q.kd = 3 then ⟨[], rows.length, false⟩ else if q.kd = 4 then ⟨[], sumT (measT q rows), false⟩
  else if q.kd = 5 then extT (fun a b => decide (a < b)) (measT q rows) else if q.kd = 6 then extT (fun a b => decide (b < a)) (measT q rows)
  else if q.kd = 7 then ⟨joinQ q rows others, 0, false⟩ else ⟨rows, 0, false⟩
def scanL (rs : List RowM) (q : QM) : List RowM := rangeL rs q.tb q.cl.toNat q.lo q.hi
def evalT (rs : List RowM) (q : QM) : ResM := fromQ q (scanL rs q) (tabL rs q.ot)
def optQ (q : QM) (b : Bool) (r : RowM) : Option RowM := if b && inQ q r then some r else none
def bfQ (q : QM) (c : Chg) : Option RowM := optQ q c.had ⟨c.t, c.k, c.o⟩
def afQ (q : QM) (c : Chg) : Option RowM := optQ q c.has ⟨c.t, c.k, c.n⟩
def mQ (q : QM) : Option RowM → Int
  | some r => valL r q.bq
  | none => 0
def anyQ (q : QM) (c : Chg) : Bool := (bfQ q c).isSome || (afQ q c).isSome
def oneQ (q : QM) (c : Chg) : Bool := (bfQ q c).isSome != (afQ q c).isSome
def touchQ (q : QM) (c : Chg) : Bool :=
  if q.kd = 1 ∨ q.kd = 2 then anyQ q c else if q.kd = 3 then oneQ q c else if q.kd = 4 then decide (mQ q (bfQ q c) ≠ mQ q (afQ q c))
  else if q.kd = 5 ∨ q.kd = 6 then oneQ q c || decide (mQ q (bfQ q c) ≠ mQ q (afQ q c)) else anyQ q c || decide (c.t = q.ot)
def sumI : List Int → Int
  | [] => 0
  | x :: l => x + sumI l
theorem foldl_sum (l : List Int) : ∀ a, l.foldl (· + ·) a = a + sumI l := by
  induction l with
  | nil => intro a; simp [sumI]
  | cons x l ih => intro a; rw [List.foldl_cons, ih]; simp only [sumI]; omega
theorem extT_go (lt : Int → Int → Bool) (hlt : ∀ a b c, lt b a = false → lt c b = false → lt c a = false) (hirr : ∀ a, lt a a = false) (hasy : ∀ a b, lt a b = true → lt b a = false) (l : List Int) : ∀ (m : Int), ∃ x, (x = m ∨ x ∈ l) ∧ lt m x = false ∧ (∀ y ∈ l, lt y x = false) ∧ l.foldl (fun (r : ResM) n => (⟨r.rows, if !r.fnd || lt n r.val then n else r.val, true⟩ : ResM)) ⟨[], m, true⟩ = ⟨[], x, true⟩ := by
  induction l with
  | nil => intro m; exact ⟨m, .inl rfl, hirr m, by simp, rfl⟩
  | cons z l ih =>
    intro m
    rw [List.foldl_cons]
    cases hz : lt z m with
    | true =>
      obtain ⟨x, h1, h2, h3, h4⟩ := ih z
      simp only [Bool.not_true, Bool.false_or, hz, if_true]
      refine ⟨x, .inr (by rcases h1 with h | h; rw [h]; simp; exact List.mem_cons_of_mem _ h), hlt x z m h2 (hasy z m hz), fun y hy => ?_, h4⟩
      rcases List.mem_cons.1 hy with rfl | hy
      · exact h2
      · exact h3 y hy
    | false =>
      obtain ⟨x, h1, h2, h3, h4⟩ := ih m
      simp only [Bool.not_true, Bool.false_or, hz, Bool.false_eq_true, if_false]
      refine ⟨x, by rcases h1 with h | h; exact .inl h; exact .inr (List.mem_cons_of_mem _ h), h2, fun y hy => ?_, h4⟩
      rcases List.mem_cons.1 hy with rfl | hy
      · exact hlt x m y h2 hz
      · exact h3 y hy
theorem extT_cons (lt : Int → Int → Bool) (hlt : ∀ a b c, lt b a = false → lt c b = false → lt c a = false) (hirr : ∀ a, lt a a = false) (hasy : ∀ a b, lt a b = true → lt b a = false) (z : Int) (l : List Int) : ∃ x ∈ z :: l, (∀ y ∈ z :: l, lt y x = false) ∧ extT lt (z :: l) = ⟨[], x, true⟩ := by
  obtain ⟨x, h1, h2, h3, h4⟩ := extT_go lt hlt hirr hasy l z
  refine ⟨x, by rcases h1 with h | h; rw [h]; simp; exact List.mem_cons_of_mem _ h, fun y hy => ?_, ?_⟩
  · rcases List.mem_cons.1 hy with rfl | hy
    · exact h2
    · exact h3 y hy
  · unfold extT
    rw [List.foldl_cons]
    exact h4
end Go.Proofs.YtkgmgmkbgnkdnaaGreatDoor


namespace Go.Proofs.YtkgmgmkbgnkdnaaGreatDoor
open Go.Proofs.Tryz
open Go Go.RowKit Gw
set_option linter.unusedVariables false
set_option linter.unusedSimpArgs false
set_option maxRecDepth 100000
attribute [local irreducible] Gw.At Gw.Nx Gw.Ops
def BaseQ (q : QM) : Prop := (0 ≤ q.tb ∧ q.tb ≤ 3) ∧ (0 ≤ q.cl ∧ q.cl ≤ 3) ∧ (-1000000000 ≤ q.lo ∧ q.lo ≤ q.hi ∧ q.hi ≤ 1000000000)
instance (q : QM) : Decidable (BaseQ q) := by unfold BaseQ; infer_instance
def Agg1 (q : QM) : Prop := 1 ≤ q.bq ∧ q.bq ≤ 3
instance (q : QM) : Decidable (Agg1 q) := by unfold Agg1; infer_instance
theorem val_1 {q : QM} (h : q.kd = 1) : ValidQ q ↔ BaseQ q ∧ q.cl = 0 ∧ q.lo = q.hi ∧ (1 ≤ q.lo ∧ q.lo ≤ 1000000) ∧ q.bq = 0 ∧ q.ot = 0 := by unfold ValidQ BaseQ; omega
theorem val_2 {q : QM} (h : q.kd = 2 ∨ q.kd = 3) : ValidQ q ↔ BaseQ q ∧ q.bq = 0 ∧ q.ot = 0 := by unfold ValidQ BaseQ; omega
theorem val_4 {q : QM} (h : q.kd = 4 ∨ q.kd = 5 ∨ q.kd = 6) : ValidQ q ↔ BaseQ q ∧ Agg1 q ∧ q.ot = 0 := by unfold ValidQ BaseQ Agg1; omega
theorem val_7 {q : QM} (h : q.kd = 7) : ValidQ q ↔ BaseQ q ∧ (0 ≤ q.ot ∧ q.ot ≤ 3) ∧ Agg1 q := by unfold ValidQ BaseQ Agg1; omega
theorem dec_1 {q : QM} (h : q.kd = 1) : decide (ValidQ q) = decide (BaseQ q ∧ q.cl = 0 ∧ q.lo = q.hi ∧ (1 ≤ q.lo ∧ q.lo ≤ 1000000) ∧ q.bq = 0 ∧ q.ot = 0) := decide_eq_decide.2 (val_1 h)
theorem dec_2 {q : QM} (h : q.kd = 2 ∨ q.kd = 3) : decide (ValidQ q) = decide (BaseQ q ∧ q.bq = 0 ∧ q.ot = 0) := decide_eq_decide.2 (val_2 h)
theorem dec_4 {q : QM} (h : q.kd = 4 ∨ q.kd = 5 ∨ q.kd = 6) : decide (ValidQ q) = decide (BaseQ q ∧ Agg1 q ∧ q.ot = 0) := decide_eq_decide.2 (val_4 h)
theorem dec_7 {q : QM} (h : q.kd = 7) : decide (ValidQ q) = decide (BaseQ q ∧ (0 ≤ q.ot ∧ q.ot ≤ 3) ∧ Agg1 q) := decide_eq_decide.2 (val_7 h)
theorem val_0 {q : QM} (h : ¬ q.kd = 1) (h7 : ¬ q.kd = 7) (h4 : ¬ q.kd = 4) (h5 : ¬ q.kd = 5) (h6 : ¬ q.kd = 6) (h2 : ¬ q.kd = 2) (h3 : ¬ q.kd = 3) : ¬ ValidQ q := by unfold ValidQ; omega

theorem in_4 {q : QM} {b0 : Bool} (h : q.kd = 4 ∨ q.kd = 5 ∨ q.kd = 6) (hb0 : b0 = decide (BaseQ q)) : ((b0 && decide (Agg1 q)) && decide (q.ot = 0)) = decide (ValidQ q) := by
  rw [dec_4 h, hb0]; simp [Bool.and_assoc]
theorem in_2 {q : QM} {b0 : Bool} (h : q.kd = 2 ∨ q.kd = 3) (hb0 : b0 = decide (BaseQ q)) : ((b0 && decide (q.bq = 0)) && decide (q.ot = 0)) = decide (ValidQ q) := by
  rw [dec_2 h, hb0]; simp [Bool.and_assoc]
theorem in_7t {q : QM} {b0 : Bool} (h : q.kd = 7) (hb0 : b0 = decide (BaseQ q)) (e0 : b0 = true) : ((decide (0 ≤ q.ot ∧ q.ot ≤ 3) && decide (Agg1 q)) && decide ((0 : Int) = 0)) = decide (ValidQ q) := by
  have hB : BaseQ q := of_decide_eq_true (hb0.symm.trans e0)
  rw [dec_7 h]; simp [hB]
theorem in_7f {q : QM} {b0 x y : Bool} (h : q.kd = 7) (hb0 : b0 = decide (BaseQ q)) (e0 : b0 = false) : ((false && x) && y) = decide (ValidQ q) := by
  have hB : ¬ BaseQ q := of_decide_eq_false (hb0.symm.trans e0)
  rw [dec_7 h]; simp [hB]
theorem in_t {q : QM} {b : Bool} {z : Int} (hb : ((b && decide (Agg1 q)) && decide (z = 0)) = decide (ValidQ q)) (e : b = true) : ((decide (1 ≤ q.bq ∧ q.bq ≤ 3) && decide ((0 : Int) = 0)) && decide (z = 0)) = decide (ValidQ q) := by
  rw [← hb, e, show decide (Agg1 q) = decide (1 ≤ q.bq ∧ q.bq ≤ 3) from decide_eq_decide.2 Iff.rfl]; simp only [Bool.true_and, decide_true, Bool.and_true]
theorem in_f {q : QM} {b x y : Bool} {z : Int} (hb : ((b && decide (Agg1 q)) && decide (z = 0)) = decide (ValidQ q)) (e : b = false) : ((false && x) && y) = decide (ValidQ q) := by
  rw [← hb, e]; simp

theorem q_within (n lo hi : Int) : DoesR Tryz.prog 50 #[.int .i64 n, .int .i64 lo, .int .i64 hi] [] (.bool (decide (lo ≤ n ∧ n ≤ hi))) := by
 refine spec_enter func50 rfl ntmps50 rfl ?_
 intro u R
 refine Zb [0, 1, 2] ?_
 refine Zq <| Zg <| Za Y <| Z0 <| Zx <| Zq <| Zg <| Zm Y <| Zm Y <| Zv (p_geq Y Y) <| Zm Y ?_
 refine ops_split (t := 10) Y rfl (fun h1 => ?_) (fun h1 => ?_)
 ·
  refine Zf Y Y <| Zf Y Y <| Yg (p_leq Y Y) <| Zv (p_pick_t Y Y) <| Za Y <| Z0 <| Zx <| at_ret ?_
  refine nx_end1 rfl results50 Y (by exact ⟨by simp [h1], rfl⟩)
 refine op_skip Y rfl <| op_skip Y rfl <| op_skip Y rfl <| Zv (p_pick_f Y Y) <| Za Y <| Z0 <| Zx <| at_ret ?_
 refine nx_end1 rfl results50 Y (by exact ⟨by simp [h1], rfl⟩)

theorem q_valid (q : QM) : DoesR Tryz.prog 24 #[.agg #[.int .i64 q.kd, .int .i64 q.tb, .int .i64 q.cl, .int .i64 q.lo, .int .i64 q.hi, .int .i64 q.bq, .int .i64 q.ot]] [] (.bool (decide (ValidQ q))) := by
 refine spec_enter func24 rfl ntmps24 rfl ?_
 intro u R
 refine Zb [0] ?_
 refine Zq <| Zg <| Ze (w_box Y (cs := #[_, _, _, _, _, _, _]) rfl) ?_
 rintro _ _ ⟨pb, rfl, rfl⟩
 refine Za Y <| Z0 <| Zx <| Zb [1] ?_
 refine at_cutB (e0 := []) (H0 := []) (fun e H => ∃ (b0 : Bool), (b0 = decide (BaseQ q)) ∧ e = [(3, .bool b0)] ∧ H = []) Wp ?hx_1 ?hy_1
 case hx_1 =>
  refine Zg <| Zh 1 underlying30 rfl rfl sizeOf3 Y <| Zl isAgg3 Y ?_
  refine Xr [_, _, _] Y call50 Y rfl (q_within _ _ _) ?_
  refine Zm Y ?_
  refine ops_split (t := 7) Y rfl (fun a1 => ?_) (fun a1 => ?_)
  ·
   refine Yf 2 underlying30 rfl rfl sizeOf3 Y <| Yl isAgg3 Y ?_
   refine Xr [_, _, _] Y call50 Y rfl (q_within _ _ _) ?_
   refine Zv (p_pick_t Y Y) <| Zm Y ?_
   refine ops_split (t := 12) Y rfl (fun a2 => ?_) (fun a2 => ?_)
   ·
    refine Yf 3 underlying30 rfl rfl sizeOf3 Y <| Yl isAgg3 Y ?_
    refine Yf 4 underlying30 rfl rfl sizeOf3 Y <| Yl isAgg3 Y ?_
    refine Xr [_, _, _] Y call50 Y rfl (q_within _ _ _) ?_
    refine Zv (p_pick_t Y Y) <| Zm Y ?_
    refine ops_split (t := 19) Y rfl (fun a3 => ?_) (fun a3 => ?_)
    ·
     refine Yf 4 underlying30 rfl rfl sizeOf3 Y <| Yl isAgg3 Y ?_
     refine Yg (p_leq Y Y) <| Zv (p_pick_t Y Y) <| Za Y <| Z0 <| Zn [3, 1] ?_
     refine nx_cutB (e' := [(3, _)]) (H' := _) (by exact ⟨_, by unfold BaseQ; exact decide_eq_decide.2 (by omega), rfl, rfl⟩)
    refine op_skip Y rfl <| op_skip Y rfl <| op_skip Y rfl <| Zv (p_pick_f Y Y) <| Za Y <| Z0 <| Zn [3, 1] ?_
    refine nx_cutB (e' := [(3, _)]) (H' := _) (by exact ⟨_, by unfold BaseQ; exact (decide_eq_false (by omega)).symm, rfl, rfl⟩)
   refine op_skip Y rfl <| op_skip Y rfl <| op_skip Y rfl <| op_skip Y rfl <| op_skip Y rfl <| Zv (p_pick_f Y Y) <| Zm Y <| op_skip Y rfl <| op_skip Y rfl <| op_skip Y rfl <| Zv (p_pick_f Y Y) <| Za Y <| Z0 <| Zn [3, 1] ?_
   refine nx_cutB (e' := [(3, _)]) (H' := _) (by exact ⟨_, by unfold BaseQ; exact (decide_eq_false (by omega)).symm, rfl, rfl⟩)
  refine op_skip Y rfl <| op_skip Y rfl <| op_skip Y rfl <| Zv (p_pick_f Y Y) <| Zm Y <| op_skip Y rfl <| op_skip Y rfl <| op_skip Y rfl <| op_skip Y rfl <| op_skip Y rfl <| Zv (p_pick_f Y Y) <| Zm Y <| op_skip Y rfl <| op_skip Y rfl <| op_skip Y rfl <| Zv (p_pick_f Y Y) <| Za Y <| Z0 <| Zn [3, 1] ?_
  refine nx_cutB (e' := [(3, _)]) (H' := _) (by exact ⟨_, by unfold BaseQ; exact (decide_eq_false (by omega)).symm, rfl, rfl⟩)
 rintro _ _ ⟨b0, hb0, rfl, rfl⟩
 refine Zq <| Zq <| Zg <| Zh 0 underlying30 rfl rfl sizeOf3 Y <| Zl isAgg3 Y ?_
 refine Z0 <| Zx <| at_block <| Zb [3, 25, 1] ?_
 refine at_cutB (e0 := [(3, _), (25, _)]) (H0 := [[(pb, _)]]) (fun e H => ∃ (b : Bool) (y z : Int), (((b && decide (y = 0)) && decide (z = 0)) = decide (ValidQ q)) ∧ e = [(3, .bool b)] ∧ H = [[(pb, .cells #[.int .i64 q.kd, .int .i64 q.tb, .int .i64 q.cl, .int .i64 q.lo, .int .i64 q.hi, .int .i64 y, .int .i64 z] 30 (0, 0))]]) Wp ?hx_6 ?hy_6
 case hx_6 =>
  refine at_block <| Zb [3, 25, 1] ?_
  refine at_cutB (e0 := [(3, _), (25, _)]) (H0 := [[(pb, _)]]) (fun e H => ∃ (b : Bool) (z : Int), (((b && decide (Agg1 q)) && decide (z = 0)) = decide (ValidQ q)) ∧ e = [(3, .bool b)] ∧ H = [[(pb, .cells #[.int .i64 q.kd, .int .i64 q.tb, .int .i64 q.cl, .int .i64 q.lo, .int .i64 q.hi, .int .i64 q.bq, .int .i64 z] 30 (0, 0))]]) Wp ?hx_7 ?hy_7
  case hx_7 =>
   refine at_block <| Zq <| at_block <| Zq <| at_block <| Zq <| Zq <| Zq <| Zg <| Zv (p_eql Y Y) <| Za Y <| Z0 <| Zx ?_
   refine at_if Y (fun k1 => ?_) (fun k1 => ?_)
   ·
    refine at_exit <| Zt <| Zt <| nx_block_exit <| Zx <| Zq <| Zq <| Zg <| Zm Y <| Zm Y ?_
    refine ops_split_bool (t := 38) Y rfl (fun c0 => ?_) (fun c0 => ?_)
    ·
     have hB : BaseQ q := of_decide_eq_true (hb0.symm.trans c0)
     refine Yf 2 underlying30 rfl rfl sizeOf3 Y <| Yl isAgg3 Y ?_
     refine Yg (p_eql Y Y) <| Zv (p_pick_t Y Y) <| Zm Y ?_
     refine ops_split (t := 43) Y rfl (fun c1 => ?_) (fun c1 => ?_)
     ·
      refine Yf 3 underlying30 rfl rfl sizeOf3 Y <| Yl isAgg3 Y ?_
      refine Yf 4 underlying30 rfl rfl sizeOf3 Y <| Yl isAgg3 Y ?_
      refine Yg (p_eql Y Y) <| Zv (p_pick_t Y Y) <| Zm Y ?_
      refine ops_split (t := 50) Y rfl (fun c2 => ?_) (fun c2 => ?_)
      ·
       refine Yf 3 underlying30 rfl rfl sizeOf3 Y <| Yl isAgg3 Y ?_
       refine Xr [_, _, _] Y call50 Y rfl (q_within _ _ _) ?_
       refine Zv (p_pick_t Y Y) <| Zm Y ?_
       refine ops_split (t := 55) Y rfl (fun c3 => ?_) (fun c3 => ?_)
       ·
        refine Yf 5 underlying30 rfl rfl sizeOf3 Y <| Yl isAgg3 Y ?_
        refine Yg (p_eql Y Y) <| Zv (p_pick_t Y Y) <| Zm Y ?_
        refine ops_split (t := 60) Y rfl (fun c4 => ?_) (fun c4 => ?_)
        ·
         refine Yf 6 underlying30 rfl rfl sizeOf3 Y <| Yl isAgg3 Y ?_
         refine Yg (p_eql Y Y) <| Zv (p_pick_t Y Y) <| Za Y <| Z0 <| Zn [2] ?_
         refine Zx <| at_ret <| Zt <| nx_block_ret <| Zt <| nx_block_ret <| Zt <| nx_block_ret <| Zt <| nx_block_ret <| Zt ?_
         refine nx_end1 rfl results24 Y (by exact ⟨by rw [dec_1 k1]; exact congrArg Value.bool (decide_eq_decide.2 ⟨fun h => ⟨hB, by omega⟩, fun h => by omega⟩), rfl⟩)
        refine op_skip Y rfl <| op_skip Y rfl <| op_skip Y rfl <| Zv (p_pick_f Y Y) <| Za Y <| Z0 <| Zn [2] ?_
        refine Zx <| at_ret <| Zt <| nx_block_ret <| Zt <| nx_block_ret <| Zt <| nx_block_ret <| Zt <| nx_block_ret <| Zt ?_
        refine nx_end1 rfl results24 Y (by exact ⟨by rw [dec_1 k1]; exact congrArg Value.bool (decide_eq_false (fun h => by first | exact hB h.1 | omega)).symm, rfl⟩)
       refine op_skip Y rfl <| op_skip Y rfl <| op_skip Y rfl <| Zv (p_pick_f Y Y) <| Zm Y <| op_skip Y rfl <| op_skip Y rfl <| op_skip Y rfl <| Zv (p_pick_f Y Y) <| Za Y <| Z0 <| Zn [2] ?_
       refine Zx <| at_ret <| Zt <| nx_block_ret <| Zt <| nx_block_ret <| Zt <| nx_block_ret <| Zt <| nx_block_ret <| Zt ?_
       refine nx_end1 rfl results24 Y (by exact ⟨by rw [dec_1 k1]; exact congrArg Value.bool (decide_eq_false (fun h => by first | exact hB h.1 | omega)).symm, rfl⟩)
      refine op_skip Y rfl <| op_skip Y rfl <| op_skip Y rfl <| Zv (p_pick_f Y Y) <| Zm Y <| op_skip Y rfl <| op_skip Y rfl <| op_skip Y rfl <| Zv (p_pick_f Y Y) <| Zm Y <| op_skip Y rfl <| op_skip Y rfl <| op_skip Y rfl <| Zv (p_pick_f Y Y) <| Za Y <| Z0 <| Zn [2] ?_
      refine Zx <| at_ret <| Zt <| nx_block_ret <| Zt <| nx_block_ret <| Zt <| nx_block_ret <| Zt <| nx_block_ret <| Zt ?_
      refine nx_end1 rfl results24 Y (by exact ⟨by rw [dec_1 k1]; exact congrArg Value.bool (decide_eq_false (fun h => by first | exact hB h.1 | omega)).symm, rfl⟩)
     refine op_skip Y rfl <| op_skip Y rfl <| op_skip Y rfl <| op_skip Y rfl <| op_skip Y rfl <| Zv (p_pick_f Y Y) <| Zm Y <| op_skip Y rfl <| op_skip Y rfl <| op_skip Y rfl <| Zv (p_pick_f Y Y) <| Zm Y <| op_skip Y rfl <| op_skip Y rfl <| op_skip Y rfl <| Zv (p_pick_f Y Y) <| Zm Y <| op_skip Y rfl <| op_skip Y rfl <| op_skip Y rfl <| Zv (p_pick_f Y Y) <| Za Y <| Z0 <| Zn [2] ?_
     refine Zx <| at_ret <| Zt <| nx_block_ret <| Zt <| nx_block_ret <| Zt <| nx_block_ret <| Zt <| nx_block_ret <| Zt ?_
     refine nx_end1 rfl results24 Y (by exact ⟨by rw [dec_1 k1]; exact congrArg Value.bool (decide_eq_false (fun h => by first | exact hB h.1 | omega)).symm, rfl⟩)
    have hB : ¬ BaseQ q := of_decide_eq_false (hb0.symm.trans c0)
    refine op_skip Y rfl <| op_skip Y rfl <| op_skip Y rfl <| Zv (p_pick_f Y Y) <| Zm Y <| op_skip Y rfl <| op_skip Y rfl <| op_skip Y rfl <| op_skip Y rfl <| op_skip Y rfl <| Zv (p_pick_f Y Y) <| Zm Y <| op_skip Y rfl <| op_skip Y rfl <| op_skip Y rfl <| Zv (p_pick_f Y Y) <| Zm Y <| op_skip Y rfl <| op_skip Y rfl <| op_skip Y rfl <| Zv (p_pick_f Y Y) <| Zm Y <| op_skip Y rfl <| op_skip Y rfl ?_
    refine op_skip Y rfl <| Zv (p_pick_f Y Y) <| Za Y <| Z0 <| Zn [2] ?_
    refine Zx <| at_ret <| Zt <| nx_block_ret <| Zt <| nx_block_ret <| Zt <| nx_block_ret <| Zt <| nx_block_ret <| Zt ?_
    refine nx_end1 rfl results24 Y (by exact ⟨by rw [dec_1 k1]; exact congrArg Value.bool (decide_eq_false (fun h => by first | exact hB h.1 | omega)).symm, rfl⟩)
   refine at_skip <| Zx <| Zq <| Zq <| Zg <| Zv (p_eql Y Y) <| Za Y <| Z0 <| Zx ?_
   refine at_if Y (fun k7 => ?_) (fun k7 => ?_)
   ·
    refine at_exit <| Zt <| Zt <| nx_block_other rfl <| Zt <| nx_block_exit <| Zx <| Zq <| Zg <| Zm Y <| Zm Y ?_
    refine ops_split_bool (t := 66) Y rfl (fun e0 => ?_) (fun e0 => ?_)
    ·
     refine Yf 6 underlying30 rfl rfl sizeOf3 Y <| Yl isAgg3 Y ?_
     refine Xr [_, _, _] Y call50 Y rfl (q_within _ _ _) ?_
     refine Zv (p_pick_t Y Y) <| Za Y <| Z0 <| Zx <| Zg <| Zh 6 underlying30 rfl rfl sizeOf3 Y <| Xe (Zs sizeOf3 Y Y rfl) ?_
     refine Z0 <| Zn [1, 3] ?_
     refine nx_block_normal <| Zn [3, 1] ?_
     refine nx_cutB (e' := [(3, _)]) (H' := _) (by exact ⟨_, _, in_7t k7 hb0 e0, rfl, rfl⟩)
    refine op_skip Y rfl <| op_skip Y rfl <| op_skip Y rfl <| Zv (p_pick_f Y Y) <| Za Y <| Z0 <| Zx <| Zg <| Zh 6 underlying30 rfl rfl sizeOf3 Y <| Xe (Zs sizeOf3 Y Y rfl) ?_
    refine Z0 <| Zn [1, 3] ?_
    refine nx_block_normal <| Zn [3, 1] ?_
    refine nx_cutB (e' := [(3, _)]) (H' := _) (by exact ⟨_, 0, in_7f k7 hb0 e0, rfl, rfl⟩)
   refine at_skip <| Zx <| Zq <| Zq <| Zq <| Zg <| Zv (p_eql Y Y) <| Za Y <| Z0 <| Zx ?_
   refine at_if Y (fun k4 => ?_) (fun k4 => ?_)
   ·
    refine at_skip <| Zx ?_
    refine at_if Y (fun k4 => ?_) (fun k4 => ?_)
    ·
     refine at_exit <| Zt <| Zt <| nx_block_other rfl <| Zt <| nx_block_other rfl <| Zt <| nx_block_exit <| Zn [3, 1] ?_
     refine nx_cutB (e' := [(3, _)]) (H' := _) (by exact ⟨_, _, in_4 (by omega) hb0, rfl, rfl⟩)
    refine at_skip <| Zx <| Zq <| Zq <| Zg <| Zv (p_eql Y Y) <| Za Y <| Z0 <| Zx ?_
    refine at_if Y (fun k2 => ?_) (fun k2 => ?_)
    ·
     refine at_skip <| Zx ?_
     refine at_if Y (fun k2 => ?_) (fun k2 => ?_)
     ·
      refine at_exit <| Zt <| nx_block_other rfl <| Zt <| nx_block_other rfl <| Zt <| nx_block_other rfl <| Zt <| nx_block_exit <| Zn [3, 1] ?_
      refine nx_cutB (e' := [(3, _)]) (H' := _) (by exact ⟨_, _, _, in_2 (by omega) hb0, rfl, rfl⟩)
     refine at_skip <| Zx <| at_exit <| nx_block_other rfl <| Zt <| nx_block_other rfl <| Zt <| nx_block_other rfl <| Zt <| nx_block_other rfl <| Zt <| nx_block_exit <| Zx <| Zq <| Zg <| Za Y <| Z0 <| Zx <| at_ret ?_
     refine nx_end1 rfl results24 Y (by exact ⟨congrArg Value.bool (decide_eq_false (val_0 k1 k7 (by omega) (by omega) (by omega) (by omega) (by omega))).symm, rfl⟩)
    refine Zg <| Zv (p_eql Y Y) <| Za Y <| Z0 <| Zx ?_
    refine at_if Y (fun k2 => ?_) (fun k2 => ?_)
    ·
     refine at_exit <| Zt <| nx_block_other rfl <| Zt <| nx_block_other rfl <| Zt <| nx_block_other rfl <| Zt <| nx_block_exit <| Zn [3, 1] ?_
     refine nx_cutB (e' := [(3, _)]) (H' := _) (by exact ⟨_, _, _, in_2 (by omega) hb0, rfl, rfl⟩)
    refine at_skip <| Zx <| at_exit <| nx_block_other rfl <| Zt <| nx_block_other rfl <| Zt <| nx_block_other rfl <| Zt <| nx_block_other rfl <| Zt <| nx_block_exit <| Zx <| Zq <| Zg <| Za Y <| Z0 <| Zx <| at_ret ?_
    refine nx_end1 rfl results24 Y (by exact ⟨congrArg Value.bool (decide_eq_false (val_0 k1 k7 (by omega) (by omega) (by omega) (by omega) (by omega))).symm, rfl⟩)
   refine Zq <| Zg <| Zv (p_eql Y Y) <| Za Y <| Z0 <| Zx ?_
   refine at_if Y (fun k4 => ?_) (fun k4 => ?_)
   ·
    refine at_skip <| Zx ?_
    refine at_if Y (fun k4 => ?_) (fun k4 => ?_)
    ·
     refine at_exit <| Zt <| Zt <| nx_block_other rfl <| Zt <| nx_block_other rfl <| Zt <| nx_block_exit <| Zn [3, 1] ?_
     refine nx_cutB (e' := [(3, _)]) (H' := _) (by exact ⟨_, _, in_4 (by omega) hb0, rfl, rfl⟩)
    refine at_skip <| Zx <| Zq <| Zq <| Zg <| Zv (p_eql Y Y) <| Za Y <| Z0 <| Zx ?_
    refine at_if Y (fun k2 => ?_) (fun k2 => ?_)
    ·
     refine at_skip <| Zx ?_
     refine at_if Y (fun k2 => ?_) (fun k2 => ?_)
     ·
      refine at_exit <| Zt <| nx_block_other rfl <| Zt <| nx_block_other rfl <| Zt <| nx_block_other rfl <| Zt <| nx_block_exit <| Zn [3, 1] ?_
      refine nx_cutB (e' := [(3, _)]) (H' := _) (by exact ⟨_, _, _, in_2 (by omega) hb0, rfl, rfl⟩)
     refine at_skip <| Zx <| at_exit <| nx_block_other rfl <| Zt <| nx_block_other rfl <| Zt <| nx_block_other rfl <| Zt <| nx_block_other rfl <| Zt <| nx_block_exit <| Zx <| Zq <| Zg <| Za Y <| Z0 <| Zx <| at_ret ?_
     refine nx_end1 rfl results24 Y (by exact ⟨congrArg Value.bool (decide_eq_false (val_0 k1 k7 (by omega) (by omega) (by omega) (by omega) (by omega))).symm, rfl⟩)
    refine Zg <| Zv (p_eql Y Y) <| Za Y <| Z0 <| Zx ?_
    refine at_if Y (fun k2 => ?_) (fun k2 => ?_)
    ·
     refine at_exit <| Zt <| nx_block_other rfl <| Zt <| nx_block_other rfl <| Zt <| nx_block_other rfl <| Zt <| nx_block_exit <| Zn [3, 1] ?_
     refine nx_cutB (e' := [(3, _)]) (H' := _) (by exact ⟨_, _, _, in_2 (by omega) hb0, rfl, rfl⟩)
    refine at_skip <| Zx <| at_exit <| nx_block_other rfl <| Zt <| nx_block_other rfl <| Zt <| nx_block_other rfl <| Zt <| nx_block_other rfl <| Zt <| nx_block_exit <| Zx <| Zq <| Zg <| Za Y <| Z0 <| Zn [2] ?_
    refine Zx <| at_ret ?_
    refine nx_end1 rfl results24 Y (by exact ⟨congrArg Value.bool (decide_eq_false (val_0 k1 k7 (by omega) (by omega) (by omega) (by omega) (by omega))).symm, rfl⟩)
   refine Zg <| Zv (p_eql Y Y) <| Za Y <| Z0 <| Zx ?_
   refine at_if Y (fun k4 => ?_) (fun k4 => ?_)
   ·
    refine at_exit <| Zt <| Zt <| nx_block_other rfl <| Zt <| nx_block_other rfl <| Zt <| nx_block_exit <| Zn [3, 1] ?_
    refine nx_cutB (e' := [(3, _)]) (H' := _) (by exact ⟨_, _, in_4 (by omega) hb0, rfl, rfl⟩)
   refine at_skip <| Zx <| Zq <| Zq <| Zg <| Zv (p_eql Y Y) <| Za Y <| Z0 <| Zx ?_
   refine at_if Y (fun k2 => ?_) (fun k2 => ?_)
   ·
    refine at_skip <| Zx ?_
    refine at_if Y (fun k2 => ?_) (fun k2 => ?_)
    ·
     refine at_exit <| Zt <| nx_block_other rfl <| Zt <| nx_block_other rfl <| Zt <| nx_block_other rfl <| Zt <| nx_block_exit <| Zn [3, 1] ?_
     refine nx_cutB (e' := [(3, _)]) (H' := _) (by exact ⟨_, _, _, in_2 (by omega) hb0, rfl, rfl⟩)
    refine at_skip <| Zx <| at_exit <| nx_block_other rfl <| Zt <| nx_block_other rfl <| Zt <| nx_block_other rfl <| Zt <| nx_block_other rfl <| Zt <| nx_block_exit <| Zx <| Zq <| Zg <| Za Y <| Z0 <| Zn [2] ?_
    refine Zx <| at_ret ?_
    refine nx_end1 rfl results24 Y (by exact ⟨congrArg Value.bool (decide_eq_false (val_0 k1 k7 (by omega) (by omega) (by omega) (by omega) (by omega))).symm, rfl⟩)
   refine Zg <| Zv (p_eql Y Y) <| Za Y <| Z0 <| Zn [1, 3, 34] ?_
   refine Zx ?_
   refine at_if Y (fun k2 => ?_) (fun k2 => ?_)
   ·
    refine at_exit <| Zt <| nx_block_other rfl <| Zt <| nx_block_other rfl <| Zt <| nx_block_other rfl <| Zt <| nx_block_exit <| Zn [3, 1] ?_
    refine nx_cutB (e' := [(3, _)]) (H' := _) (by exact ⟨_, _, _, in_2 (by omega) hb0, rfl, rfl⟩)
   refine at_skip <| Zx <| at_exit <| nx_block_other rfl <| Zt <| nx_block_other rfl <| Zt <| nx_block_other rfl <| Zt <| nx_block_other rfl <| Zt <| nx_block_exit <| Zx <| Zq <| Zg <| Za Y <| Z0 <| Zx <| at_ret ?_
   refine nx_end1 rfl results24 Y (by exact ⟨congrArg Value.bool (decide_eq_false (val_0 k1 k7 (by omega) (by omega) (by omega) (by omega) (by omega))).symm, rfl⟩)
  rintro _ _ ⟨b, z, hb, rfl, rfl⟩
  refine Zq <| Zg <| Zm Y <| Zm Y ?_
  refine ops_split_bool (t := 73) Y rfl (fun f0 => ?_) (fun f0 => ?_)
  ·
   refine Yf 5 underlying30 rfl rfl sizeOf3 Y <| Yl isAgg3 Y ?_
   refine Xr [_, _, _] Y call50 Y rfl (q_within _ _ _) ?_
   refine Zv (p_pick_t Y Y) <| Za Y <| Z0 <| Zx <| Zg <| Zh 5 underlying30 rfl rfl sizeOf3 Y <| Xe (Zs sizeOf3 Y Y rfl) ?_
   refine Z0 <| nx_block_normal <| Zn [3, 1] ?_
   refine nx_cutB (e' := [(3, _)]) (H' := _) (by exact ⟨_, _, _, in_t hb f0, rfl, rfl⟩)
  refine op_skip Y rfl <| op_skip Y rfl <| op_skip Y rfl <| Zv (p_pick_f Y Y) <| Za Y <| Z0 <| Zx <| Zg <| Zh 5 underlying30 rfl rfl sizeOf3 Y <| Xe (Zs sizeOf3 Y Y rfl) ?_
  refine Z0 <| nx_block_normal <| Zn [3, 1] ?_
  refine nx_cutB (e' := [(3, _)]) (H' := _) (by exact ⟨_, 0, z, in_f hb f0, rfl, rfl⟩)
 rintro _ _ ⟨b, y, z, hb, rfl, rfl⟩
 refine Zq <| Zq <| Zg <| Zm Y <| Zm Y ?_
 refine ops_split_bool (t := 80) Y rfl (fun g0 => ?_) (fun g0 => ?_)
 ·
  refine Yf 5 underlying30 rfl rfl sizeOf3 Y <| Yl isAgg3 Y ?_
  refine Yg (p_eql Y Y) <| Zv (p_pick_t Y Y) <| Zm Y ?_
  refine ops_split (t := 85) Y rfl (fun g1 => ?_) (fun g1 => ?_)
  ·
   refine Yf 6 underlying30 rfl rfl sizeOf3 Y <| Yl isAgg3 Y ?_
   refine Yg (p_eql Y Y) <| Zv (p_pick_t Y Y) <| Za Y <| Z0 <| Zx <| at_ret <| Zt <| nx_block_ret <| Zt ?_
   refine nx_end1 rfl results24 Y (by exact ⟨by rw [← hb]; simp [*], rfl⟩)
  refine op_skip Y rfl <| op_skip Y rfl <| op_skip Y rfl <| Zv (p_pick_f Y Y) <| Za Y <| Z0 <| Zx <| at_ret <| Zt <| nx_block_ret <| Zt ?_
  refine nx_end1 rfl results24 Y (by exact ⟨by rw [← hb]; simp [*], rfl⟩)
 refine op_skip Y rfl <| op_skip Y rfl <| op_skip Y rfl <| Zv (p_pick_f Y Y) <| Zm Y <| op_skip Y rfl <| op_skip Y rfl <| op_skip Y rfl <| Zv (p_pick_f Y Y) <| Za Y <| Z0 <| Zx <| at_ret <| Zt <| nx_block_ret <| Zt ?_
 refine nx_end1 rfl results24 Y (by exact ⟨by rw [← hb]; simp [*], rfl⟩)

end Go.Proofs.YtkgmgmkbgnkdnaaGreatDoor
