/- SnapshotSurvives: the law. -/
import Derived.Test.YthbadolcncojbaaGreatDoorSv2
import Derived.Test.YthbadolcncojbaaGreatDoorGs4
import Derived.Test.YthbadolcncojbaaGreatDoorSn3
import Derived.Test.YthbadolcncojbaaGreatDoorTl2
import Derived.Test.YthbadolcncojbaaGreatDoorEx15

namespace Go.Proofs.YthbadolcncojbaaGreatDoor
open Go Go.RowKit Gw
set_option linter.unusedVariables false
set_option maxRecDepth 100000
attribute [local irreducible] Gw.At Gw.Nx Gw.Ops
/-- A call as the law has it. -/
structure StepV where
  kind : Int
  vl : Value
  n : Int
  vk : Value
  torn : Int
  ls : List (List UInt8)
  zs : List Int
structure StepV.ok (M : List Chunk) (o : StepV) : Prop where
  k1 : -9223372036854775808 ≤ o.kind
  k2 : o.kind ≤ 9223372036854775807
  n1 : -9223372036854775808 ≤ o.n
  n2 : o.n ≤ 9223372036854775807
  t1 : -9223372036854775808 ≤ o.torn
  t2 : o.torn ≤ 9223372036854775807
  sl : StrsIn M o.vl o.ls
  il : IntsIn M o.vk o.zs
/-- In the memory M the value v is a row of calls. -/
def StepsIn (M : List Chunk) (v : Value) (os : List StepV) : Prop := ∃ p cap, v = .slice p os.length cap ∧ os.length ≤ maxLen ∧ ∀ (i : Nat) (o : StepV), os[i]? = some o → o.ok M ∧ ∃ g off cur T zz, p = some ⟨g, off, none⟩ ∧ (g, Obj.cells cur T zz) ∈ M ∧ off + i * 5 + 5 ≤ cur.size ∧ cur.extract (off + i * 5) (off + i * 5 + 5) = #[.int .i64 o.kind, o.vl, .int .i64 o.n, o.vk, .int .i64 o.torn]

/-- A part of the memory M is a row of strings. -/
def TrIn (M : List Chunk) (v : Value) (l : List (List UInt8)) : Prop := ∃ a s b, M = a ++ s ++ b ∧ Row 9 v (l.map strV) s
theorem TrIn.more {M : List Chunk} {v : Value} {l : List (List UInt8)} (h : TrIn M v l) (s : List Chunk) : TrIn (M ++ s) v l := by
  obtain ⟨a, t, b, rfl, h⟩ := h
  exact ⟨a, t, b ++ s, by simp, h⟩
/-- The lists that have been tried. -/
def Tried (M : List Chunk) (vt : Value) (st : List Chunk) (ts : List (List (List UInt8))) : Prop := ∃ vs, Row 43 vt vs st ∧ vs.length = ts.length ∧ ∀ (i : Nat) v l, vs[i]? = some v → ts[i]? = some l → TrIn M v l
theorem Tried.nil : Tried [] (.slice none 0 0) [] [] := ⟨[], row_nil _, rfl, fun i v l h => by cases h⟩
theorem tried_add {M : List Chunk} {vs : List Value} {ts : List (List (List UInt8))} (hl : vs.length = ts.length) (h : ∀ (i : Nat) v l, vs[i]? = some v → ts[i]? = some l → TrIn M v l) {v : Value} {l : List (List UInt8)} {s st' : List Chunk} {vt' : Value} (hv : Row 9 v (l.map strV) s) (hr : Row 43 vt' (vs ++ [v]) st') : Tried (M ++ s) vt' st' (ts ++ [l]) := by
  refine ⟨_, hr, by simp [hl], fun i x y hx hy => ?_⟩
  rw [List.getElem?_append] at hx hy
  split at hx
  · rename_i hi
    rw [if_pos (by omega)] at hy
    exact (h i x y hx hy).more s
  · rename_i hi
    rw [if_neg (by omega)] at hy
    have h0 : i - vs.length = 0 := by
      have := (List.getElem?_eq_some_iff.1 hx).1
      simp at this; omega
    rw [h0] at hx
    rw [show i - ts.length = 0 by omega] at hy
    simp only [List.getElem?_cons_zero, Option.some.injEq] at hx hy
    subst hx hy
    exact ⟨M, s, [], by simp, hv⟩
theorem same_tr {v v' : Value} {xs ys : List (List UInt8)} {s M : List Chunk} (h : Row 9 v (xs.map strV) s) (h' : TrIn M v' ys) (hl : xs.length ≤ 4194304) :
    DoesR Tryz.prog 25 #[v, v'] [s, M] (.bool (decide (xs = ys))) := by
  obtain ⟨a, t, b, rfl, h'⟩ := h'
  refine does_perm (does_frame (same_rows h h' hl) [a, b] rfl) ?_ ?_
  · refine perm_cnt fun p => ?_
    simp only [List.flatten_cons, List.flatten_nil, List.flatten_append, List.countP_append, List.countP_nil, List.append_nil]
    omega
  · rintro r _ ⟨H2, ⟨rfl, rfl⟩, rfl⟩
    refine ⟨_, ⟨rfl, rfl⟩, ?_⟩
    refine perm_cnt fun p => ?_
    simp only [List.flatten_cons, List.flatten_nil, List.flatten_append, List.countP_append, List.countP_nil, List.append_nil]
    omega
theorem found_yes {x s : List (List UInt8)} {ts : List (List (List UInt8))} {k : Nat} (h : x = s ∨ x ∈ ts.take k) : true = decide (x = s ∨ x ∈ ts.take (k + 1)) := by
  symm
  apply decide_eq_true
  rcases h with h | h
  · exact .inl h
  · exact .inr (by rw [List.take_add_one]; exact List.mem_append_left _ h)
theorem found_no {x s l : List (List UInt8)} {ts : List (List (List UInt8))} {k : Nat} (h : ¬ (x = s ∨ x ∈ ts.take k)) (hl : ts[k]? = some l) : decide (x = l) = decide (x = s ∨ x ∈ ts.take (k + 1)) := by
  apply decide_eq_decide.2
  rw [List.take_add_one, hl]
  simp only [Option.toList, List.mem_append, List.mem_singleton]
  constructor
  · intro h9; exact .inr (.inr h9)
  · rintro (h9 | h9 | h9)
    · exact absurd (.inl h9) h
    · exact absurd (.inr h9) h
    · exact h9
theorem few_any (ls : List (List UInt8)) : (fewL ls).any isBig = false := by
  rw [List.any_eq_false]
  intro r hr
  unfold fewL at hr
  obtain ⟨x, _, rfl⟩ := List.mem_map.1 hr
  unfold isBig
  simp only [List.length_take, decide_eq_true_eq]
  omega
theorem CoOk.cutA {n1 n2 k : Nat} {c : Core} {da db : DiskS} (h : CoOk n1 n2 k c da db) (m : Nat) : CoOk n1 n2 (k + 1) c (da.cut m).2 db := ⟨h.wa.cut m, h.wb.more (by omega), h.g1, h.g2, h.ln⟩
theorem CoOk.cutB {n1 n2 k : Nat} {c : Core} {da db : DiskS} (h : CoOk n1 n2 k c da db) (m : Nat) : CoOk n1 n2 (k + 1) c da (db.cut m).2 := ⟨h.wa.more (by omega), h.wb.cut m, h.g1, h.g2, h.ln⟩
theorem row_its {c : Core} {l : List (List UInt8)} {v : Value} {s : List Chunk} (h : c.its = l) (hr : Row 9 v (l.map strV) s) : Row 9 v (c.its.map strV) s := by rw [h]; exact hr
theorem wok_none (n : Nat) : Wok n 0 (DiskS.new n) none := ⟨by simp [DiskS.new], Nat.le_refl _, (by intro p hp; cases hp), fun j hj => by cases hj⟩
/-- The state of the law. -/
structure SvI (n1 n2 k sp a b : Nat) (co : Core) (da db : DiskS) (ts : List (List (List UInt8))) (vs vt : Value) (ss sr sja sjb sda sdb su st M2 : List Chunk) : Prop where
  ok : CoOk n1 n2 k co da db
  mem : CoR co sp a b ss sr sja sjb
  ra : DiskR da a sda
  rb : DiskR db b sdb
  su : Row 9 vs (co.its.map strV) su
  tr : Tried M2 vt st ts
  sv : Surv (fun l => l = co.its ∨ l ∈ ts) co da db
theorem CoOk.items {n1 n2 k : Nat} {c : Core} {da db : DiskS} (h : CoOk n1 n2 k c da db) (h1 : n1 ≤ 4194304) (h2 : n2 ≤ 4194304) : c.its.length ≤ 4194304 := h.big h1 h2

theorem survives_law (m : Int) (m1 : -9223372036854775808 ≤ m) (m2 : m ≤ 9223372036854775807) (n : Int) (h1 : -9223372036854775808 ≤ n) (h2 : n ≤ 9223372036854775807) (p : Option Addr) (cap : Nat) (os : List StepV) (M : List Chunk) (hO : StepsIn M (.slice p os.length cap) os) (pa : Addr) (Tx Tg : TypeId) (zx zg : Nat × Nat) :
    DoesR Tryz.prog 6 #[.int .i64 m, .int .i64 n, .slice p os.length cap] [[(4, .cells (kTab.map u32v).toArray Tg zg)], [(0, .cells #[.iface 299 (.pointer (some pa))] Tx zx)], M] (.bool true) := by
 have hml : maxLen = 9223372036854775807 := rfl
 have hsm : sizeN m = 40 + pickN m 1200 := rfl
 have hsn : sizeN n = 40 + pickN n 1200 := rfl
 have hpm := pickN_lt m 1200 (by decide)
 have hpn := pickN_lt n 1200 (by decide)
 obtain ⟨pz, capz, hpz, hlz, hgz⟩ := hO
 injection hpz with e1 e2 e3
 subst e1 e3
 obtain ⟨n1, hn1⟩ : ∃ x, x = sizeN m := ⟨_, rfl⟩
 obtain ⟨n2, hn2⟩ : ∃ x, x = sizeN n := ⟨_, rfl⟩
 have hsz1 : 40 ≤ n1 ∧ n1 ≤ 4194304 := by omega
 have hsz2 : 40 ≤ n2 ∧ n2 ≤ 4194304 := by omega
 obtain ⟨c0, he0, hs0, hi0, hSv0⟩ := surv_new n1 n2 (by omega) (by omega)
 have hok0 := (open_ok (wok_none n1) (wok_none n2) (by omega) (by omega)).co c0 hs0
 refine spec_enter Tryz.func6 rfl Tryz.ntmps6 rfl ?_
 intro u R
 refine at_slots (env' := [(0, _), (1, _), (2, _)]) [0, 1, 2] rfl (fun _=>rfl) ?_
 refine at_seq ?_
 refine at_region ?_
 refine op_v (p_assign (fun _=>rfl)) ?_
 refine ops_nil ?_
 refine nx_next ?_
 refine at_seq ?_
 refine at_region ?_
 refine op_e (w_callR (vs := []) (fun _=>rfl) Tryz.call18 (fun _=>rfl) rfl (sane24 pa Tx Tg zx zg) (by repeat (first | exact Pull.nil _ | (apply Pull.cons; (focus (repeat (first | exact One.here _ _ | apply One.there))))))) (fun _=>rfl) rfl rfl ?_
 rintro _ _ ⟨rfl, rfl⟩
 refine op_v (p_assign (fun _=>rfl)) ?_
 refine ops_nil ?_
 refine nx_next ?_
 refine at_seq ?_
 refine at_region ?_
 refine op_v (p_move (fun _=>rfl)) ?_
 refine op_e (w_callR (vs := [_]) (fun _=>rfl) Tryz.call30 (fun _=>rfl) rfl (size_law m m1 m2) (by repeat (first | exact Pull.nil _ | (apply Pull.cons; (focus (repeat (first | exact One.here _ _ | apply One.there))))))) (fun _=>rfl) rfl rfl ?_
 rintro _ _ ⟨rfl, rfl⟩
 rw [← hn1]
 refine ops_eff (fun _=>rfl) (fits_of rfl) rfl (w_call (vs := [_]) (fun _=>rfl) Tryz.call9 (fun _=>rfl) rfl (new_state n1 (by omega) (by omega)) (by repeat (first | exact Pull.nil _ | (apply Pull.cons; (focus (repeat (first | exact One.here _ _ | apply One.there))))))) ?_ no_pan
 rintro _ _ ⟨_, ⟨a, sda0, rfl, rfl, hRa0⟩, rfl⟩
 obtain ⟨csa, hca⟩ := disk_cell hRa0
 refine op_v (p_move (fun _=>rfl)) ?_
 refine op_v (p_extract (fun _=>rfl) rfl) ?_
 refine op_v (p_extract (fun _=>rfl) rfl) ?_
 refine op_v (p_assign (fun _=>rfl)) ?_
 refine op_v (p_assign (fun _=>rfl)) ?_
 refine ops_nil ?_
 refine nx_next ?_
 refine at_seq ?_
 refine at_region ?_
 refine op_v (p_move (fun _=>rfl)) ?_
 refine op_e (w_callR (vs := [_]) (fun _=>rfl) Tryz.call30 (fun _=>rfl) rfl (size_law n h1 h2) (by repeat (first | exact Pull.nil _ | (apply Pull.cons; (focus (repeat (first | exact One.here _ _ | apply One.there))))))) (fun _=>rfl) rfl rfl ?_
 rintro _ _ ⟨rfl, rfl⟩
 rw [← hn2]
 refine ops_eff (fun _=>rfl) (fits_of rfl) rfl (w_call (vs := [_]) (fun _=>rfl) Tryz.call9 (fun _=>rfl) rfl (new_state n2 (by omega) (by omega)) (by repeat (first | exact Pull.nil _ | (apply Pull.cons; (focus (repeat (first | exact One.here _ _ | apply One.there))))))) ?_ no_pan
 rintro _ _ ⟨_, ⟨b, sdb0, rfl, rfl, hRb0⟩, rfl⟩
 obtain ⟨csb, hcb⟩ := disk_cell hRb0
 refine op_v (p_move (fun _=>rfl)) ?_
 refine op_v (p_extract (fun _=>rfl) rfl) ?_
 refine op_v (p_extract (fun _=>rfl) rfl) ?_
 refine op_v (p_assign (fun _=>rfl)) ?_
 refine op_v (p_assign (fun _=>rfl)) ?_
 refine ops_nil ?_
 refine nx_slots (env' := [(2, _), (7, _), (8, _), (10, _)]) [2, 7, 8, 10] rfl (fun _=>rfl) ?_
 refine nx_next ?_
 refine at_seq ?_
 refine at_ne (s1 := sda0) (s2 := sdb0) (by repeat (first | exact One.here _ _ | apply One.there)) (by repeat (first | exact One.here _ _ | apply One.there)) hca hcb (fun hab => ?_)
 refine at_region ?_
 refine op_v (p_move (fun _=>rfl)) ?_
 refine op_v (p_move (fun _=>rfl)) ?_
 refine ops_eff (fun _=>rfl) (fits_of rfl) rfl (w_call (vs := [_, _]) (fun _=>rfl) Tryz.call23 (fun _=>rfl) rfl (sopen_any a b n1 n2 0 (DiskS.new n1) (DiskS.new n2) none none sda0 sdb0 pa Tx Tg zx zg hab hRa0 hRb0 (wok_none n1) (wok_none n2) (by omega) (by omega) (by omega) (by omega)) (by repeat (first | exact Pull.nil _ | (apply Pull.cons; (focus (repeat (first | exact One.here _ _ | apply One.there))))))) ?_ no_pan
 rintro _ _ ⟨_, ⟨v0, ss0, sr0, sja0, sjb0, sda1, sdb1, rfl, hC0, hRa1, hRb1, rfl⟩, rfl⟩
 rw [hs0] at hC0
 obtain ⟨sp0, rfl, hC0⟩ := hC0
 rw [he0]
 refine op_v (p_move (fun _=>rfl)) ?_
 refine op_v (p_extract (fun _=>rfl) rfl) ?_
 refine op_v (p_extract (fun _=>rfl) rfl) ?_
 refine op_v (p_assign (fun _=>rfl)) ?_
 refine op_v (p_assign (fun _=>rfl)) ?_
 refine ops_nil ?_
 refine nx_next ?_
 refine at_seq ?_
 refine at_seq ?_
 refine at_region ?_
 refine op_v (p_move (fun _=>rfl)) ?_
 first | refine op_v (p_neq_nat (n := 0) (fun _=>rfl) (fun _=>rfl)) ?_ | refine op_v (p_neq (fun _=>rfl) (fun _=>rfl)) ?_
 refine op_v (p_move (fun _=>rfl)) ?_
 first | refine ops_split (t := 46) (fun _=>rfl) rfl (fun hgg1 => ?_) (fun hgg1 => ?_) | refine ops_split_bool (t := 46) (fun _=>rfl) rfl (fun hgg1 => ?_) (fun hgg1 => ?_)
 ·
  exfalso; first | exact hgg1 rfl | (cases hgg1; done) | contradiction | omega | (simp at hgg1; done) | (simp at hgg1; omega) | (simp_all; done) | (simp_all; omega)
 ·
  refine op_wg (fun _=>rfl) (p_move (fun _=>rfl)) rfl rfl ?_
  first | refine op_wg (fun _=>rfl) (p_eql_nil_nil Tryz.underlying57 (fun _=>rfl) (fun _=>rfl)) rfl rfl ?_ | refine op_wg (fun _=>rfl) (p_eql_ptr_nil Tryz.underlying57 (fun _=>rfl) (fun _=>rfl)) rfl rfl ?_
  refine op_v (p_pick_f (fun _=>rfl) (fun _=>rfl)) ?_
  refine ops_nil ?_
  refine nx_slots (env' := [(2, _), (7, _), (8, _), (10, _), (12, _), (49, _)]) [2, 7, 8, 10, 12, 49] rfl (fun _=>rfl) ?_
  refine nx_next ?_
  refine at_if_bool (fun _=>rfl) (fun hgg2 => ?_) (fun hgg2 => ?_)
  ·
   exfalso; first | exact hgg2 rfl | (cases hgg2; done) | contradiction | omega | (simp at hgg2; done) | (simp at hgg2; omega) | (simp_all; done) | (simp_all; omega)
  ·
   refine at_skip ?_
   refine nx_next ?_
   refine at_seq ?_
   refine at_region ?_
   refine op_v (p_assign (fun _=>rfl)) ?_
   refine ops_nil ?_
   refine nx_next ?_
   refine at_seq ?_
   refine at_region ?_
   refine op_v (p_assign (fun _=>rfl)) ?_
   refine ops_nil ?_
   refine nx_next ?_
   refine at_seq ?_
   refine at_seq ?_
   refine at_region ?_
   refine op_v (p_assign (fun _=>rfl)) ?_
   refine ops_nil ?_
   refine nx_next ?_
   refine at_block ?_
   refine at_nil ?_
   refine at_nil ?_
   refine at_nil ?_
   refine at_slots (env' := [(12, _), (14, _), (15, _), (16, _), (2, _), (7, _), (8, _), (10, _)]) [12, 14, 15, 16, 2, 7, 8, 10] rfl (fun _=>rfl) ?_
   refine at_loopB (e0 := [(12, _), (14, _), (15, _), (16, _)]) (H0 := _) (n := _) (fun m e H => ∃ (i : Nat) (co : Core) (sp : Nat) (da db : DiskS) (ts : List (List (List UInt8))) (vs vt : Value) (ss sr sja sjb sda sdb su st M2 : List Chunk), m = 20 - i ∧ ((SvI n1 n2 (4 * i + 4) sp a b co da db ts vs vt ss sr sja sjb sda sdb su st M2 ∧ ts.length ≤ i) ∧ i ≤ 20) ∧ e = [(12, .pointer (some ⟨sp, 0, none⟩)), (14, vs), (15, vt), (16, .int .i64 (i : Int))] ∧ H = [ss, sr, sja, sjb, sda, sdb, su, st, M2]) (by exact ⟨0, c0, sp0, _, _, [], .slice none 0 0, .slice none 0 0, ss0, sr0, sja0, sjb0, sda1, sdb1, [], [], [], rfl, ⟨⟨⟨hok0.more (by omega), hC0, hRa1, hRb1, by rw [hi0]; exact row_nil _, Tried.nil, hSv0.mono (fun l h => .inl (by rw [hi0]; exact h))⟩, Nat.le_refl _⟩, Nat.zero_le _⟩, rfl, rfl⟩) (by repeat (first | exact Pull.nil _ | (apply Pull.cons; (focus (repeat (first | exact One.here _ _ | apply One.there)))))) ?_
   rintro _ _ _ ⟨i, co, sp, da, db, ts, vs, vt, ss, sr, sja, sjb, sda, sdb, su, st, M2, rfl, ⟨⟨hI, htn⟩, hi20⟩, rfl, rfl⟩
   refine at_seq ?_
   refine at_seq ?_
   refine at_region ?_
   refine op_v (p_move (fun _=>rfl)) ?_
   refine op_v (p_move (fun _=>rfl)) ?_
   refine op_v (p_len_slice Tryz.underlying70 (fun _=>rfl)) ?_
   first | refine op_v (p_lss_nat (fun _=>rfl) (fun _=>rfl)) ?_ | refine op_v (p_lss (fun _=>rfl) (fun _=>rfl)) ?_
   refine op_v (p_move (fun _=>rfl)) ?_
   first | refine ops_split (t := 54) (fun _=>rfl) rfl (fun hlt => ?_) (fun hlt => ?_) | refine ops_split_bool (t := 54) (fun _=>rfl) rfl (fun hlt => ?_) (fun hlt => ?_)
   ·
    refine op_wg (fun _=>rfl) (p_move (fun _=>rfl)) rfl rfl ?_
    first | refine op_wg (fun _=>rfl) (p_lss_nat (n := 20) (fun _=>rfl) (fun _=>rfl)) rfl rfl ?_ | refine op_wg (fun _=>rfl) (p_lss (fun _=>rfl) (fun _=>rfl)) rfl rfl ?_
    refine op_v (p_pick_t (fun _=>rfl) (fun _=>rfl)) ?_
    refine ops_nil ?_
    refine nx_next ?_
    first | refine at_if (fun _=>rfl) (fun hl20 => ?_) (fun hl20 => ?_) | refine at_if_bool (fun _=>rfl) (fun hl20 => ?_) (fun hl20 => ?_)
    ·
     refine at_skip ?_
     refine nx_next ?_
     refine at_seq ?_
     refine at_block ?_
     refine at_seq ?_
     obtain ⟨o, ho⟩ : ∃ o, os[i]? = some o := ⟨_, List.getElem?_eq_getElem hlt⟩
     obtain ⟨hok, g, off, cur, T, zz, rfl, hm, hsz, hex⟩ := hgz i o ho
     obtain ⟨k1, k2, n1b, n2b, t1b, t2b, hsl, hil⟩ := hok
     obtain ⟨pk, ck, hvk, hzm, hzg⟩ := id hil
     obtain ⟨pl, nl, cl, hvl⟩ : ∃ p n c, o.vl = .slice p n c := by
       rcases hsl with ⟨_, _, h, _⟩ | ⟨_, _, _, _, _, _, h, _⟩
       · exact ⟨_, _, _, h⟩
       · exact ⟨_, _, _, h⟩
     rw [hvl] at hsl hex
     rw [hvk] at hil hex
     have hit := hil.take (min o.zs.length 10) (by omega)
     have hpk := pickN_lt o.kind 8 (by decide)
     have hpn := pickN_lt o.n 7 (by decide)
     have hits := hI.ok.items (by omega) (by omega)
     have hfl := few_len o.ls
     have hfb := few_any o.ls
     obtain ⟨vts, hrt, htl, htr⟩ := id hI.tr
     obtain ⟨gts, cts, hvt⟩ := hrt.form
     subst hvt
     obtain ⟨gsu, csu, hvs⟩ := hI.su.form
     subst hvs
     refine at_region ?_
     refine op_v (p_move (fun _=>rfl)) ?_
     refine op_v (p_move (fun _=>rfl)) ?_
     (refine op_v (p_indexAddr_nat Tryz.underlying70 Tryz.sizeOf78 (fun _=>rfl) (fun _=>rfl) ?_) ?_; (focus (first | omega | exact Nat.le_refl _ | (simp; done) | (simp; omega))))
     refine op_rm (cs := [(g, .cells cur T zz)]) (by simp [hm]) (p_load_agg (cs := #[.int .i64 o.kind, .slice pl nl cl, .int .i64 o.n, .slice pk o.zs.length ck, .int .i64 o.torn]) Tryz.isAgg78 Tryz.sizeOf78 (fun _=>rfl) (by omega) hex) rfl rfl ?_
     refine op_e (w_alloc Tryz.zeroValue78 (cs := #[_, _, _, _, _]) rfl) (fun _=>rfl) rfl rfl ?_
     rintro _ _ ⟨by_, rfl, rfl⟩
     refine op_e (w_store_agg Tryz.sizeOf78 (fun _=>rfl) (fun _=>rfl) (by first | (simp [Value.oneCell']; done) | (simp [Value.oneCell', Value.cells]; done)) (by repeat (first | exact Upd.here _ | apply Upd.there)) (by rfl) (by first | rfl | (simp; done)) (by first | omega | exact Nat.le_refl _ | (simp; done) | (simp; omega)) (by exact free_zero _)) (fun _=>rfl) rfl rfl ?_
     rintro _ _ ⟨rfl, rfl⟩
     refine ops_nil ?_
     refine nx_slots (env' := [(2, _), (7, _), (8, _), (10, _), (12, _), (14, _), (15, _), (16, _), (17, _)]) [2, 7, 8, 10, 12, 14, 15, 16, 17] rfl (fun _=>rfl) ?_
     refine nx_next ?_
     refine at_seq ?_
     refine at_region ?_
     refine op_v (p_fieldAddr0 (off := 3) Tryz.underlying78 rfl rfl Tryz.sizeOf76 (fun _=>rfl)) ?_
     refine op_r (by repeat (first | exact Has.here _ | apply Has.there)) (p_load Tryz.isAgg76 (fun _=>rfl) (by rfl)) rfl rfl ?_
     refine op_v (p_fieldAddr0 (off := 3) Tryz.underlying78 rfl rfl Tryz.sizeOf76 (fun _=>rfl)) ?_
     refine op_r (by repeat (first | exact Has.here _ | apply Has.there)) (p_load Tryz.isAgg76 (fun _=>rfl) (by rfl)) rfl rfl ?_
     refine op_v (p_len_slice Tryz.underlying76 (fun _=>rfl)) ?_
     first | refine op_v (p_min_nat (n := 10) (fun _=>rfl) (fun _=>rfl)) ?_ | refine op_v (p_min_int (fun _=>rfl) (fun _=>rfl)) ?_
     (refine op_v (p_slice_slice_to Tryz.underlying76 Tryz.sizeOf3 (fun _=>rfl) (fun _=>rfl) ?_) ?_; (focus (omega)))
     refine op_v (p_assign (fun _=>rfl)) ?_
     refine ops_nil ?_
     refine nx_next ?_
     refine at_slots (env' := [(12, _), (14, _), (15, _), (17, _), (18, _), (2, _), (7, _), (8, _), (10, _), (16, _)]) [12, 14, 15, 17, 18, 2, 7, 8, 10, 16] rfl (fun _=>rfl) ?_
     refine at_cutB (e0 := [(12, _), (14, _), (15, _), (17, _), (18, _)]) (H0 := [ss, sr, sja, sjb, sda, sdb, su, st, M2]) (fun e H => ∃ (co : Core) (sp : Nat) (da db : DiskS) (ts : List (List (List UInt8))) (vs vt : Value) (ss sr sja sjb sda sdb su st M2 : List Chunk), (SvI n1 n2 (4 * (i + 1) + 4) sp a b co da db ts vs vt ss sr sja sjb sda sdb su st M2 ∧ ts.length ≤ i + 1) ∧ e = [(12, .pointer (some ⟨sp, 0, none⟩)), (14, vs), (15, vt)] ∧ H = [ss, sr, sja, sjb, sda, sdb, su, st, M2]) (by repeat (first | exact Pull.nil _ | (apply Pull.cons; (focus (repeat (first | exact One.here _ _ | apply One.there)))))) ?hx_2 ?hy_2
     case hx_2 =>
      refine at_seq ?_
      refine at_region ?_
      refine op_v (p_fieldAddr0 (off := 0) Tryz.underlying78 rfl rfl Tryz.sizeOf3 (fun _=>rfl)) ?_
      refine op_r (by repeat (first | exact Has.here _ | apply Has.there)) (p_load Tryz.isAgg3 (fun _=>rfl) (by rfl)) rfl rfl ?_
      refine op_e (w_callR (vs := [_, _]) (fun _=>rfl) Tryz.call33 (fun _=>rfl) rfl (pick_spec o.kind 8 (by decide) (by decide) k1 k2) (by repeat (first | exact Pull.nil _ | (apply Pull.cons; (focus (repeat (first | exact One.here _ _ | apply One.there))))))) (fun _=>rfl) rfl rfl ?_
      rintro _ _ ⟨rfl, rfl⟩
      refine ops_nil ?_
      refine nx_next ?_
      refine at_block ?_
      refine at_seq ?_
      refine at_region ?_
      first | refine op_v (p_eql_nat (n := 5) (fun _=>rfl) (fun _=>rfl)) ?_ | refine op_v (p_eql (fun _=>rfl) (fun _=>rfl)) ?_
      refine op_v (p_assign (fun _=>rfl)) ?_
      refine ops_nil ?_
      refine nx_next ?_
      first | refine at_if (fun _=>rfl) (fun hk5 => ?_) (fun hk5 => ?_) | refine at_if_bool (fun _=>rfl) (fun hk5 => ?_) (fun hk5 => ?_)
      ·
       refine at_seq ?_
       refine at_region ?_
       refine op_v (p_fieldAddr0 (off := 2) Tryz.underlying78 rfl rfl Tryz.sizeOf3 (fun _=>rfl)) ?_
       refine op_r (by repeat (first | exact Has.here _ | apply Has.there)) (p_load Tryz.isAgg3 (fun _=>rfl) (by rfl)) rfl rfl ?_
       first | (refine op_v (p_rem_nat (n := 2) (fun _=>rfl) (fun _=>rfl) ?_) ?_; (focus (omega))) | (refine op_v (p_rem (fun _=>rfl) (fun _=>rfl) ?_ rfl) ?_; (focus (omega)))
       first | refine op_v (p_eql_nat (n := 0) (fun _=>rfl) (fun _=>rfl)) ?_ | refine op_v (p_eql (fun _=>rfl) (fun _=>rfl)) ?_
       refine ops_nil ?_
       refine nx_next ?_
       first | refine at_if (fun _=>rfl) (fun hpar => ?_) (fun hpar => ?_) | refine at_if_bool (fun _=>rfl) (fun hpar => ?_) (fun hpar => ?_)
       ·
        refine at_region ?_
        refine op_v (p_move (fun _=>rfl)) ?_
        refine op_v (p_fieldAddr0 (off := 2) Tryz.underlying78 rfl rfl Tryz.sizeOf3 (fun _=>rfl)) ?_
        refine op_r (by repeat (first | exact Has.here _ | apply Has.there)) (p_load Tryz.isAgg3 (fun _=>rfl) (by rfl)) rfl rfl ?_
        refine op_e (w_callR (vs := [_, _]) (fun _=>rfl) Tryz.call33 (fun _=>rfl) rfl (pick_spec o.n 7 (by decide) (by decide) n1b n2b) (by repeat (first | exact Pull.nil _ | (apply Pull.cons; (focus (repeat (first | exact One.here _ _ | apply One.there))))))) (fun _=>rfl) rfl rfl ?_
        rintro _ _ ⟨rfl, rfl⟩
        first | (refine op_v (p_add_nat (m := 1) (fun _=>rfl) (fun _=>rfl) ?_) ?_; (focus (omega))) | (refine op_v (p_add (fun _=>rfl) (fun _=>rfl) (IntWalk.i64_in _ ?_)) ?_; (focus (omega)))
        refine ops_eff (fun _=>rfl) (fits_of rfl) rfl (w_call (vs := [_, _]) (fun _=>rfl) Tryz.call34 (fun _=>rfl) rfl (disk_cut_any da a sda hI.ra (1 + pickN o.n 7) (by omega)) (by repeat (first | exact Pull.nil _ | (apply Pull.cons; (focus (repeat (first | exact One.here _ _ | apply One.there))))))) ?_ no_pan
        rintro _ _ ⟨_, ⟨sda1, rfl, rfl, hRa1⟩, rfl⟩
        refine ops_nil ?_
        refine nx_slots (env' := [(2, _), (7, _), (8, _), (10, _), (12, _), (14, _), (15, _), (16, _)]) [2, 7, 8, 10, 12, 14, 15, 16] rfl (fun _=>rfl) ?_
        refine nx_block_normal ?_
        refine nx_slots (env' := [(12, _), (14, _), (15, _), (2, _), (7, _), (8, _), (10, _), (16, _)]) [12, 14, 15, 2, 7, 8, 10, 16] rfl (fun _=>rfl) ?_
        refine nx_cutB (e' := [(12, _), (14, _), (15, _)]) (H' := _) (by first | exact ⟨co, sp, _, db, ts, _, _, ss, sr, sja, sjb, sda1, sdb, su, st, M2, ⟨⟨(hI.ok.cutA _).more (by omega), hI.mem, hRa1, hI.rb, hI.su, hI.tr, hI.sv.same (cut_keep _ _) ⟨rfl, rfl, rfl⟩⟩, by first | omega | (simp; done) | (simp; omega)⟩, rfl, rfl⟩ | exact ⟨co, sp, da, _, ts, _, _, ss, sr, sja, sjb, sda, sdb1, su, st, M2, ⟨⟨(hI.ok.cutB _).more (by omega), hI.mem, hI.ra, hRb1, hI.su, hI.tr, hI.sv.same ⟨rfl, rfl, rfl⟩ (cut_keep _ _)⟩, by first | omega | (simp; done) | (simp; omega)⟩, rfl, rfl⟩ | exact ⟨c2, sp2, q.2.2.1, q.2.2.2, [], _, _, ss2, sr2, sja2, sjb2, sda2, sdb2, sv3, [], [], ⟨⟨hok2.more (by omega), hC2, hRa2, hRb2, hv3, Tried.nil, hSv2.mono (fun l h => .inl h)⟩, by first | omega | (simp; done) | (simp; omega)⟩, rfl, rfl⟩ | exact ⟨_, sp, _, _, [], _, _, ss1, sr1, sja1, sjb1, sda1, sdb1, sf9, [], [], ⟨⟨hokc, hCc, hRac, hRbc, (row_its hic hf9), Tried.nil, hSc.mono (fun l h => .inl (h.trans hic.symm))⟩, by first | omega | (simp; done) | (simp; omega)⟩, rfl, rfl⟩ | exact ⟨_, sp, _, _, (ts ++ [fewL o.ls]), _, _, ss1, sr1, sja1, sjb1, sda1, sdb1, su, sq, M2 ++ sf8, ⟨⟨hokc, hCc, hRac, hRbc, (row_its hic hI.su), tried_add htl htr hf8 hrq, hSc _ (fun l h => h.elim (fun h => .inl (h.trans hic.symm)) (fun h => .inr (List.mem_append_left _ h))) (.inr (List.mem_append_right _ (List.mem_singleton.2 rfl)))⟩, by first | omega | (simp; done) | (simp; omega)⟩, rfl, rfl⟩ | exact ⟨_, sp, _, _, [], _, _, ss1, sr1, sja1, sjb1, sda1, sdb1, sw, [], [], ⟨⟨hoka, hCa, hRac, hRbc, (row_its hia hrw), Tried.nil, hSa.mono (fun l h => .inl (h.trans hia.symm))⟩, by first | omega | (simp; done) | (simp; omega)⟩, rfl, rfl⟩ | exact ⟨_, sp, _, _, (ts ++ [co.its ++ fewL o.ls]), _, _, ss1, sr1, sja1, sjb1, sda1, sdb1, su, sq, M2 ++ sw, ⟨⟨hoka, hCa, hRac, hRbc, (row_its hia hI.su), tried_add htl htr hrw hrq, hSa _ (fun l h => h.elim (fun h => .inl (h.trans hia.symm)) (fun h => .inr (List.mem_append_left _ h))) (.inr (List.mem_append_right _ (List.mem_singleton.2 rfl)))⟩, by first | omega | (simp; done) | (simp; omega)⟩, rfl, rfl⟩)
       ·
        refine at_region ?_
        refine op_v (p_move (fun _=>rfl)) ?_
        refine op_v (p_fieldAddr0 (off := 2) Tryz.underlying78 rfl rfl Tryz.sizeOf3 (fun _=>rfl)) ?_
        refine op_r (by repeat (first | exact Has.here _ | apply Has.there)) (p_load Tryz.isAgg3 (fun _=>rfl) (by rfl)) rfl rfl ?_
        refine op_e (w_callR (vs := [_, _]) (fun _=>rfl) Tryz.call33 (fun _=>rfl) rfl (pick_spec o.n 7 (by decide) (by decide) n1b n2b) (by repeat (first | exact Pull.nil _ | (apply Pull.cons; (focus (repeat (first | exact One.here _ _ | apply One.there))))))) (fun _=>rfl) rfl rfl ?_
        rintro _ _ ⟨rfl, rfl⟩
        first | (refine op_v (p_add_nat (m := 1) (fun _=>rfl) (fun _=>rfl) ?_) ?_; (focus (omega))) | (refine op_v (p_add (fun _=>rfl) (fun _=>rfl) (IntWalk.i64_in _ ?_)) ?_; (focus (omega)))
        refine ops_eff (fun _=>rfl) (fits_of rfl) rfl (w_call (vs := [_, _]) (fun _=>rfl) Tryz.call34 (fun _=>rfl) rfl (disk_cut_any db b sdb hI.rb (1 + pickN o.n 7) (by omega)) (by repeat (first | exact Pull.nil _ | (apply Pull.cons; (focus (repeat (first | exact One.here _ _ | apply One.there))))))) ?_ no_pan
        rintro _ _ ⟨_, ⟨sdb1, rfl, rfl, hRb1⟩, rfl⟩
        refine ops_nil ?_
        refine nx_slots (env' := [(2, _), (7, _), (8, _), (10, _), (12, _), (14, _), (15, _), (16, _)]) [2, 7, 8, 10, 12, 14, 15, 16] rfl (fun _=>rfl) ?_
        refine nx_block_normal ?_
        refine nx_slots (env' := [(12, _), (14, _), (15, _), (2, _), (7, _), (8, _), (10, _), (16, _)]) [12, 14, 15, 2, 7, 8, 10, 16] rfl (fun _=>rfl) ?_
        refine nx_cutB (e' := [(12, _), (14, _), (15, _)]) (H' := _) (by first | exact ⟨co, sp, _, db, ts, _, _, ss, sr, sja, sjb, sda1, sdb, su, st, M2, ⟨⟨(hI.ok.cutA _).more (by omega), hI.mem, hRa1, hI.rb, hI.su, hI.tr, hI.sv.same (cut_keep _ _) ⟨rfl, rfl, rfl⟩⟩, by first | omega | (simp; done) | (simp; omega)⟩, rfl, rfl⟩ | exact ⟨co, sp, da, _, ts, _, _, ss, sr, sja, sjb, sda, sdb1, su, st, M2, ⟨⟨(hI.ok.cutB _).more (by omega), hI.mem, hI.ra, hRb1, hI.su, hI.tr, hI.sv.same ⟨rfl, rfl, rfl⟩ (cut_keep _ _)⟩, by first | omega | (simp; done) | (simp; omega)⟩, rfl, rfl⟩ | exact ⟨c2, sp2, q.2.2.1, q.2.2.2, [], _, _, ss2, sr2, sja2, sjb2, sda2, sdb2, sv3, [], [], ⟨⟨hok2.more (by omega), hC2, hRa2, hRb2, hv3, Tried.nil, hSv2.mono (fun l h => .inl h)⟩, by first | omega | (simp; done) | (simp; omega)⟩, rfl, rfl⟩ | exact ⟨_, sp, _, _, [], _, _, ss1, sr1, sja1, sjb1, sda1, sdb1, sf9, [], [], ⟨⟨hokc, hCc, hRac, hRbc, (row_its hic hf9), Tried.nil, hSc.mono (fun l h => .inl (h.trans hic.symm))⟩, by first | omega | (simp; done) | (simp; omega)⟩, rfl, rfl⟩ | exact ⟨_, sp, _, _, (ts ++ [fewL o.ls]), _, _, ss1, sr1, sja1, sjb1, sda1, sdb1, su, sq, M2 ++ sf8, ⟨⟨hokc, hCc, hRac, hRbc, (row_its hic hI.su), tried_add htl htr hf8 hrq, hSc _ (fun l h => h.elim (fun h => .inl (h.trans hic.symm)) (fun h => .inr (List.mem_append_left _ h))) (.inr (List.mem_append_right _ (List.mem_singleton.2 rfl)))⟩, by first | omega | (simp; done) | (simp; omega)⟩, rfl, rfl⟩ | exact ⟨_, sp, _, _, [], _, _, ss1, sr1, sja1, sjb1, sda1, sdb1, sw, [], [], ⟨⟨hoka, hCa, hRac, hRbc, (row_its hia hrw), Tried.nil, hSa.mono (fun l h => .inl (h.trans hia.symm))⟩, by first | omega | (simp; done) | (simp; omega)⟩, rfl, rfl⟩ | exact ⟨_, sp, _, _, (ts ++ [co.its ++ fewL o.ls]), _, _, ss1, sr1, sja1, sjb1, sda1, sdb1, su, sq, M2 ++ sw, ⟨⟨hoka, hCa, hRac, hRbc, (row_its hia hI.su), tried_add htl htr hrw hrq, hSa _ (fun l h => h.elim (fun h => .inl (h.trans hia.symm)) (fun h => .inr (List.mem_append_left _ h))) (.inr (List.mem_append_right _ (List.mem_singleton.2 rfl)))⟩, by first | omega | (simp; done) | (simp; omega)⟩, rfl, rfl⟩)
      ·
       refine at_seq ?_
       refine at_seq ?_
       refine at_region ?_
       first | refine op_v (p_eql_nat (n := 6) (fun _=>rfl) (fun _=>rfl)) ?_ | refine op_v (p_eql (fun _=>rfl) (fun _=>rfl)) ?_
       refine op_v (p_assign (fun _=>rfl)) ?_
       refine ops_nil ?_
       refine nx_next ?_
       first | refine at_if (fun _=>rfl) (fun hk6 => ?_) (fun hk6 => ?_) | refine at_if_bool (fun _=>rfl) (fun hk6 => ?_) (fun hk6 => ?_)
       ·
        refine at_skip ?_
        refine nx_next ?_
        first | refine at_if (fun _=>rfl) (fun hk7 => ?_) (fun hk7 => ?_) | refine at_if_bool (fun _=>rfl) (fun hk7 => ?_) (fun hk7 => ?_)
        ·
         refine at_seq ?_
         refine at_region ?_
         refine op_v (p_move (fun _=>rfl)) ?_
         refine op_v (p_move (fun _=>rfl)) ?_
         refine op_v (p_fieldAddr0 (off := 4) Tryz.underlying78 rfl rfl Tryz.sizeOf3 (fun _=>rfl)) ?_
         refine op_r (by repeat (first | exact Has.here _ | apply Has.there)) (p_load Tryz.isAgg3 (fun _=>rfl) (by rfl)) rfl rfl ?_
         refine ops_eff (fun _=>rfl) (fits_of rfl) rfl (w_call (vs := [_, _, _]) (fun _=>rfl) Tryz.call35 (fun _=>rfl) rfl (disk_crash da a sda M _ _ o.torn hI.ra (fun p hp => by have := hI.ok.wa.inr p hp; have := hI.ra.1.1; have := hI.ok.wa.len; omega) (by have := hI.ok.wa.pend; omega) hit (by rw [List.length_take]; omega) t1b t2b) (by repeat (first | exact Pull.nil _ | (apply Pull.cons; (focus (repeat (first | exact One.here _ _ | apply One.there))))))) ?_ no_pan
         rintro _ _ ⟨_, ⟨sda1, rfl, hRa1, rfl⟩, rfl⟩
         refine ops_nil ?_
         refine nx_next ?_
         refine at_seq ?_
         refine at_region ?_
         refine op_v (p_move (fun _=>rfl)) ?_
         refine op_v (p_move (fun _=>rfl)) ?_
         refine op_v (p_fieldAddr0 (off := 2) Tryz.underlying78 rfl rfl Tryz.sizeOf3 (fun _=>rfl)) ?_
         refine op_r (by repeat (first | exact Has.here _ | apply Has.there)) (p_load Tryz.isAgg3 (fun _=>rfl) (by rfl)) rfl rfl ?_
         refine ops_eff (fun _=>rfl) (fits_of rfl) rfl (w_call (vs := [_, _, _]) (fun _=>rfl) Tryz.call35 (fun _=>rfl) rfl (disk_crash db b sdb M _ _ o.n hI.rb (fun p hp => by have := hI.ok.wb.inr p hp; have := hI.rb.1.1; have := hI.ok.wb.len; omega) (by have := hI.ok.wb.pend; omega) hit (by rw [List.length_take]; omega) n1b n2b) (by repeat (first | exact Pull.nil _ | (apply Pull.cons; (focus (repeat (first | exact One.here _ _ | apply One.there))))))) ?_ no_pan
         rintro _ _ ⟨_, ⟨sdb1, rfl, hRb1, rfl⟩, rfl⟩
         refine ops_nil ?_
         refine nx_slots (env' := [(2, _), (7, _), (8, _), (10, _), (14, _), (15, _), (16, _)]) [2, 7, 8, 10, 14, 15, 16] rfl (fun _=>rfl) ?_
         refine nx_next ?_
         refine at_seq ?_
         have hwa := hI.ok.wa.crash hI.ra.1.1 (o.zs.take (min o.zs.length 10)) o.torn
         have hwb := hI.ok.wb.crash hI.rb.1.1 (o.zs.take (min o.zs.length 10)) o.n
         obtain ⟨c2, he2, hs2, hT2, hSv2⟩ := hI.sv.open (o.zs.take (min o.zs.length 10)) (o.zs.take (min o.zs.length 10)) o.torn o.n
         have hok2 := (open_ok hwa hwb (by omega) (by omega)).co c2 hs2
         obtain ⟨dA, hdA⟩ : ∃ x, x = da.crash (o.zs.take (min o.zs.length 10)) o.torn := ⟨_, rfl⟩
         obtain ⟨dB, hdB⟩ : ∃ x, x = db.crash (o.zs.take (min o.zs.length 10)) o.n := ⟨_, rfl⟩
         rw [← hdA] at hwa hs2 he2 hSv2 hok2 hRa1
         rw [← hdB] at hwb hs2 he2 hSv2 hok2 hRb1
         obtain ⟨q, hq⟩ : ∃ q, q = openS dA dB := ⟨_, rfl⟩
         rw [← hq] at hs2 he2 hSv2 hok2
         refine at_region ?_
         refine op_v (p_move (fun _=>rfl)) ?_
         refine op_v (p_move (fun _=>rfl)) ?_
         refine ops_eff (fun _=>rfl) (fits_of rfl) rfl (w_call (vs := [_, _]) (fun _=>rfl) Tryz.call23 (fun _=>rfl) rfl (sopen_any a b n1 n2 0 dA dB none none sda1 sdb1 pa Tx Tg zx zg hab hRa1 hRb1 hwa hwb (by omega) (by omega) (by omega) (by omega)) (by repeat (first | exact Pull.nil _ | (apply Pull.cons; (focus (repeat (first | exact One.here _ _ | apply One.there))))))) ?_ no_pan
         rintro _ _ ⟨_, ⟨v2, ss2, sr2, sja2, sjb2, sda2, sdb2, rfl, hC2, hRa2, hRb2, rfl⟩, rfl⟩
         rw [← hq] at hC2 hRa2 hRb2 ⊢
         rw [hs2] at hC2
         obtain ⟨sp2, rfl, hC2⟩ := hC2
         rw [he2]
         have hit2 := hok2.items (by omega) (by omega)
         refine op_v (p_move (fun _=>rfl)) ?_
         refine op_v (p_extract (fun _=>rfl) rfl) ?_
         refine op_v (p_extract (fun _=>rfl) rfl) ?_
         refine op_v (p_assign (fun _=>rfl)) ?_
         refine op_v (p_assign (fun _=>rfl)) ?_
         refine ops_nil ?_
         refine nx_next ?_
         refine at_seq ?_
         refine at_seq ?_
         refine at_region ?_
         refine op_v (p_move (fun _=>rfl)) ?_
         first | refine op_v (p_neq_nat (n := 0) (fun _=>rfl) (fun _=>rfl)) ?_ | refine op_v (p_neq (fun _=>rfl) (fun _=>rfl)) ?_
         refine op_v (p_move (fun _=>rfl)) ?_
         first | refine ops_split (t := 131) (fun _=>rfl) rfl (fun hgg3 => ?_) (fun hgg3 => ?_) | refine ops_split_bool (t := 131) (fun _=>rfl) rfl (fun hgg3 => ?_) (fun hgg3 => ?_)
         ·
          exfalso; first | exact hgg3 rfl | (cases hgg3; done) | contradiction | omega | (simp at hgg3; done) | (simp at hgg3; omega) | (simp_all; done) | (simp_all; omega)
         ·
          refine op_wg (fun _=>rfl) (p_move (fun _=>rfl)) rfl rfl ?_
          first | refine op_wg (fun _=>rfl) (p_eql_nil_nil Tryz.underlying57 (fun _=>rfl) (fun _=>rfl)) rfl rfl ?_ | refine op_wg (fun _=>rfl) (p_eql_ptr_nil Tryz.underlying57 (fun _=>rfl) (fun _=>rfl)) rfl rfl ?_
          refine op_v (p_pick_f (fun _=>rfl) (fun _=>rfl)) ?_
          refine ops_nil ?_
          refine nx_slots (env' := [(2, _), (7, _), (8, _), (10, _), (14, _), (15, _), (16, _), (19, _), (134, _)]) [2, 7, 8, 10, 14, 15, 16, 19, 134] rfl (fun _=>rfl) ?_
          refine nx_next ?_
          refine at_if_bool (fun _=>rfl) (fun hgg4 => ?_) (fun hgg4 => ?_)
          ·
           exfalso; first | exact hgg4 rfl | (cases hgg4; done) | contradiction | omega | (simp at hgg4; done) | (simp at hgg4; omega) | (simp_all; done) | (simp_all; omega)
          ·
           refine at_skip ?_
           refine nx_next ?_
           refine at_seq ?_
           refine at_region ?_
           refine op_v (p_move (fun _=>rfl)) ?_
           refine ops_eff (fun _=>rfl) (fits_of rfl) rfl (w_call (vs := [_]) (fun _=>rfl) Tryz.call26 (fun _=>rfl) rfl (core_items c2 sp2 a b ss2 sr2 sja2 sjb2 hit2 hC2) (by repeat (first | exact Pull.nil _ | (apply Pull.cons; (focus (repeat (first | exact One.here _ _ | apply One.there))))))) ?_ no_pan
           rintro _ _ ⟨_, ⟨sv3, hv3, rfl⟩, rfl⟩
           refine op_v (p_assign (fun _=>rfl)) ?_
           refine ops_nil ?_
           refine nx_next ?_
           refine at_seq ?_
           refine at_region ?_
           refine op_v (p_move (fun _=>rfl)) ?_
           refine op_v (p_move (fun _=>rfl)) ?_
           refine op_e (w_callR (vs := [_, _]) (fun _=>rfl) Tryz.call25 (fun _=>rfl) rfl (same_rows hv3 hI.su hit2) (by repeat (first | exact Pull.nil _ | (apply Pull.cons; (focus (repeat (first | exact One.here _ _ | apply One.there))))))) (fun _=>rfl) rfl rfl ?_
           rintro _ _ ⟨rfl, rfl⟩
           refine op_v (p_assign (fun _=>rfl)) ?_
           refine ops_nil ?_
           refine nx_next ?_
           refine at_seq ?_
           refine at_seq ?_
           refine at_region ?_
           refine op_v (p_assign (fun _=>rfl)) ?_
           refine ops_nil ?_
           refine nx_next ?_
           refine at_block ?_
           refine at_slots (env' := [(22, _), (23, _), (2, _), (7, _), (8, _), (10, _), (15, _), (16, _), (19, _), (21, _)]) [22, 23, 2, 7, 8, 10, 15, 16, 19, 21] rfl (fun _=>rfl) ?_
           refine at_loopB (e0 := [(22, _), (23, _)]) (H0 := _) (n := _) (fun m e H => ∃ (kk : Nat), m = ts.length - kk ∧ (kk ≤ ts.length) ∧ e = [(22, .bool (decide (c2.its = co.its ∨ c2.its ∈ ts.take kk))), (23, .int .i64 (kk : Int))] ∧ H = []) (by exact ⟨0, rfl, Nat.zero_le _, by simp, rfl⟩) (by repeat (first | exact Pull.nil _ | (apply Pull.cons; (focus (repeat (first | exact One.here _ _ | apply One.there)))))) ?_
           rintro _ _ _ ⟨kk, rfl, hkk, rfl, rfl⟩
           refine at_seq ?_
           refine at_seq ?_
           refine at_region ?_
           refine op_v (p_move (fun _=>rfl)) ?_
           refine op_v (p_move (fun _=>rfl)) ?_
           refine op_v (p_len_slice Tryz.underlying80 (fun _=>rfl)) ?_
           first | refine op_v (p_lss_nat (fun _=>rfl) (fun _=>rfl)) ?_ | refine op_v (p_lss (fun _=>rfl) (fun _=>rfl)) ?_
           refine ops_nil ?_
           refine nx_next ?_
           first | refine at_if (fun _=>rfl) (fun hlk => ?_) (fun hlk => ?_) | refine at_if_bool (fun _=>rfl) (fun hlk => ?_) (fun hlk => ?_)
           ·
            refine at_skip ?_
            refine nx_next ?_
            refine at_seq ?_
            refine at_block ?_
            obtain ⟨v7, hv7⟩ : ∃ v, vts[kk]? = some v := ⟨_, List.getElem?_eq_getElem (by omega)⟩
            obtain ⟨l7, hl7⟩ : ∃ l, ts[kk]? = some l := ⟨_, List.getElem?_eq_getElem (by omega)⟩
            obtain ⟨g7, cap7, cur7, z7, hq7, rfl, hin7⟩ := row_in hrt (by omega)
            injection hq7 with e71 e72 e73
            subst e71
            have hc7 := hin7.get kk v7 hv7
            refine at_region ?_
            refine op_v (p_move (fun _=>rfl)) ?_
            refine op_v (p_move (fun _=>rfl)) ?_
            first | refine ops_split (t := 147) (fun _=>rfl) rfl (fun hf1 => ?_) (fun hf1 => ?_) | refine ops_split_bool (t := 147) (fun _=>rfl) rfl (fun hf1 => ?_) (fun hf1 => ?_)
            ·
             refine op_skip (fun _=>rfl) rfl ?_
             refine op_skip (fun _=>rfl) rfl ?_
             refine op_skip (fun _=>rfl) rfl ?_
             refine op_skip (fun _=>rfl) rfl ?_
             refine op_skip (fun _=>rfl) rfl ?_
             refine op_skip (fun _=>rfl) rfl ?_
             refine op_v (p_pick_t (fun _=>rfl) (fun _=>rfl)) ?_
             refine op_v (p_assign (fun _=>rfl)) ?_
             refine ops_nil ?_
             refine nx_slots (env' := [(2, _), (7, _), (8, _), (10, _), (15, _), (16, _), (19, _), (21, _), (22, _), (23, _)]) [2, 7, 8, 10, 15, 16, 19, 21, 22, 23] rfl (fun _=>rfl) ?_
             refine nx_block_normal ?_
             refine nx_next ?_
             refine at_region ?_
             refine op_v (p_move (fun _=>rfl)) ?_
             first | (refine op_v (p_add_nat (n := 1) (fun _=>rfl) (fun _=>rfl) ?_) ?_; (focus (omega))) | (refine op_v (p_add (fun _=>rfl) (fun _=>rfl) (IntWalk.i64_in _ ?_)) ?_; (focus (omega)))
             refine op_v (p_assign (fun _=>rfl)) ?_
             refine ops_nil ?_
             refine nx_slots (env' := [(22, _), (23, _), (2, _), (7, _), (8, _), (10, _), (15, _), (16, _), (19, _), (21, _)]) [22, 23, 2, 7, 8, 10, 15, 16, 19, 21] rfl (fun _=>rfl) ?_
             refine nx_againB (e' := [(22, _), (23, _)]) (m := _) (H' := _) (by first | exact ⟨kk + 1, rfl, by omega, by rw [← found_yes hf1], rfl⟩ | exact ⟨kk + 1, rfl, by omega, by rw [← found_no hf1 hl7], rfl⟩)
            ·
             refine op_wg (fun _=>rfl) (p_move (fun _=>rfl)) rfl rfl ?_
             refine op_wg (fun _=>rfl) (p_move (fun _=>rfl)) rfl rfl ?_
             refine op_wg (fun _=>rfl) (p_move (fun _=>rfl)) rfl rfl ?_
             first | (refine op_wg (fun _=>rfl) (p_indexAddr_nat0 Tryz.underlying80 Tryz.sizeOf43 (fun _=>rfl) (fun _=>rfl) ?_) rfl rfl ?_; (focus (omega))) | (refine op_wg (fun _=>rfl) (p_indexAddr_nat1 Tryz.underlying80 Tryz.sizeOf43 (fun _=>rfl) (fun _=>rfl) ?_) rfl rfl ?_; (focus (omega)))
             refine op_rg (fun _=>rfl) (by repeat (first | exact Has.here _ | apply Has.there)) (p_load Tryz.isAgg43 (fun _=>rfl) (by first | exact hc7 | (rw [Nat.mul_one]; exact hc7) | simpa using hc7)) rfl rfl ?_
             refine op_e (w_callR (vs := [_, _]) (fun _=>rfl) Tryz.call25 (fun _=>rfl) rfl (same_tr hv3 (htr kk v7 l7 hv7 hl7) hit2) (by repeat (first | exact Pull.nil _ | (apply Pull.cons; (focus (repeat (first | exact One.here _ _ | apply One.there))))))) (fun _=>rfl) rfl rfl ?_
             rintro _ _ ⟨rfl, rfl⟩
             refine op_v (p_pick_f (fun _=>rfl) (fun _=>rfl)) ?_
             refine op_v (p_assign (fun _=>rfl)) ?_
             refine ops_nil ?_
             refine nx_slots (env' := [(2, _), (7, _), (8, _), (10, _), (15, _), (16, _), (19, _), (21, _), (22, _), (23, _)]) [2, 7, 8, 10, 15, 16, 19, 21, 22, 23] rfl (fun _=>rfl) ?_
             refine nx_block_normal ?_
             refine nx_next ?_
             refine at_region ?_
             refine op_v (p_move (fun _=>rfl)) ?_
             first | (refine op_v (p_add_nat (n := 1) (fun _=>rfl) (fun _=>rfl) ?_) ?_; (focus (omega))) | (refine op_v (p_add (fun _=>rfl) (fun _=>rfl) (IntWalk.i64_in _ ?_)) ?_; (focus (omega)))
             refine op_v (p_assign (fun _=>rfl)) ?_
             refine ops_nil ?_
             refine nx_slots (env' := [(22, _), (23, _), (2, _), (7, _), (8, _), (10, _), (15, _), (16, _), (19, _), (21, _)]) [22, 23, 2, 7, 8, 10, 15, 16, 19, 21] rfl (fun _=>rfl) ?_
             refine nx_againB (e' := [(22, _), (23, _)]) (m := _) (H' := _) (by first | exact ⟨kk + 1, rfl, by omega, by rw [← found_yes hf1], rfl⟩ | exact ⟨kk + 1, rfl, by omega, by rw [← found_no hf1 hl7], rfl⟩)
           ·
            rw [List.take_of_length_le (show ts.length ≤ kk by omega)]
            refine at_exit ?_
            refine nx_thru (by intro h; cases h) ?_
            refine nx_thru (by intro h; cases h) ?_
            refine nx_block_exit ?_
            refine nx_next ?_
            refine at_seq ?_
            refine at_seq ?_
            refine at_region ?_
            refine op_v (p_move (fun _=>rfl)) ?_
            first | refine op_v (p_not_dec (fun _=>rfl)) ?_ | refine op_v (p_not (fun _=>rfl)) ?_
            refine ops_nil ?_
            refine nx_next ?_
            first | refine at_if (fun _=>rfl) (fun hnf => ?_) (fun hnf => ?_) | refine at_if_bool (fun _=>rfl) (fun hnf => ?_) (fun hnf => ?_)
            ·
             exfalso; exact hnf hT2
            ·
             refine at_skip ?_
             refine nx_next ?_
             refine at_seq ?_
             refine at_region ?_
             refine op_v (p_move (fun _=>rfl)) ?_
             refine op_v (p_assign (fun _=>rfl)) ?_
             refine ops_nil ?_
             refine nx_next ?_
             refine at_seq ?_
             refine at_region ?_
             refine op_v (p_move (fun _=>rfl)) ?_
             refine op_v (p_assign (fun _=>rfl)) ?_
             refine ops_nil ?_
             refine nx_next ?_
             refine at_nil ?_
             refine at_nil ?_
             refine at_region ?_
             refine op_v (p_assign (fun _=>rfl)) ?_
             refine ops_nil ?_
             refine nx_block_normal ?_
             refine nx_slots (env' := [(12, _), (14, _), (15, _), (2, _), (7, _), (8, _), (10, _), (16, _)]) [12, 14, 15, 2, 7, 8, 10, 16] rfl (fun _=>rfl) ?_
             refine nx_cutB (e' := [(12, _), (14, _), (15, _)]) (H' := _) (by first | exact ⟨co, sp, _, db, ts, _, _, ss, sr, sja, sjb, sda1, sdb, su, st, M2, ⟨⟨(hI.ok.cutA _).more (by omega), hI.mem, hRa1, hI.rb, hI.su, hI.tr, hI.sv.same (cut_keep _ _) ⟨rfl, rfl, rfl⟩⟩, by first | omega | (simp; done) | (simp; omega)⟩, rfl, rfl⟩ | exact ⟨co, sp, da, _, ts, _, _, ss, sr, sja, sjb, sda, sdb1, su, st, M2, ⟨⟨(hI.ok.cutB _).more (by omega), hI.mem, hI.ra, hRb1, hI.su, hI.tr, hI.sv.same ⟨rfl, rfl, rfl⟩ (cut_keep _ _)⟩, by first | omega | (simp; done) | (simp; omega)⟩, rfl, rfl⟩ | exact ⟨c2, sp2, q.2.2.1, q.2.2.2, [], _, _, ss2, sr2, sja2, sjb2, sda2, sdb2, sv3, [], [], ⟨⟨hok2.more (by omega), hC2, hRa2, hRb2, hv3, Tried.nil, hSv2.mono (fun l h => .inl h)⟩, by first | omega | (simp; done) | (simp; omega)⟩, rfl, rfl⟩ | exact ⟨_, sp, _, _, [], _, _, ss1, sr1, sja1, sjb1, sda1, sdb1, sf9, [], [], ⟨⟨hokc, hCc, hRac, hRbc, (row_its hic hf9), Tried.nil, hSc.mono (fun l h => .inl (h.trans hic.symm))⟩, by first | omega | (simp; done) | (simp; omega)⟩, rfl, rfl⟩ | exact ⟨_, sp, _, _, (ts ++ [fewL o.ls]), _, _, ss1, sr1, sja1, sjb1, sda1, sdb1, su, sq, M2 ++ sf8, ⟨⟨hokc, hCc, hRac, hRbc, (row_its hic hI.su), tried_add htl htr hf8 hrq, hSc _ (fun l h => h.elim (fun h => .inl (h.trans hic.symm)) (fun h => .inr (List.mem_append_left _ h))) (.inr (List.mem_append_right _ (List.mem_singleton.2 rfl)))⟩, by first | omega | (simp; done) | (simp; omega)⟩, rfl, rfl⟩ | exact ⟨_, sp, _, _, [], _, _, ss1, sr1, sja1, sjb1, sda1, sdb1, sw, [], [], ⟨⟨hoka, hCa, hRac, hRbc, (row_its hia hrw), Tried.nil, hSa.mono (fun l h => .inl (h.trans hia.symm))⟩, by first | omega | (simp; done) | (simp; omega)⟩, rfl, rfl⟩ | exact ⟨_, sp, _, _, (ts ++ [co.its ++ fewL o.ls]), _, _, ss1, sr1, sja1, sjb1, sda1, sdb1, su, sq, M2 ++ sw, ⟨⟨hoka, hCa, hRac, hRbc, (row_its hia hI.su), tried_add htl htr hrw hrq, hSa _ (fun l h => h.elim (fun h => .inl (h.trans hia.symm)) (fun h => .inr (List.mem_append_left _ h))) (.inr (List.mem_append_right _ (List.mem_singleton.2 rfl)))⟩, by first | omega | (simp; done) | (simp; omega)⟩, rfl, rfl⟩)
        ·
         exfalso; omega
       ·
        refine at_region ?_
        first | refine op_v (p_eql_nat (n := 7) (fun _=>rfl) (fun _=>rfl)) ?_ | refine op_v (p_eql (fun _=>rfl) (fun _=>rfl)) ?_
        refine op_v (p_assign (fun _=>rfl)) ?_
        refine ops_nil ?_
        refine nx_next ?_
        first | refine at_if (fun _=>rfl) (fun hk7 => ?_) (fun hk7 => ?_) | refine at_if_bool (fun _=>rfl) (fun hk7 => ?_) (fun hk7 => ?_)
        ·
         refine at_seq ?_
         refine at_region ?_
         refine op_v (p_move (fun _=>rfl)) ?_
         refine op_v (p_move (fun _=>rfl)) ?_
         refine op_v (p_fieldAddr0 (off := 4) Tryz.underlying78 rfl rfl Tryz.sizeOf3 (fun _=>rfl)) ?_
         refine op_r (by repeat (first | exact Has.here _ | apply Has.there)) (p_load Tryz.isAgg3 (fun _=>rfl) (by rfl)) rfl rfl ?_
         refine ops_eff (fun _=>rfl) (fits_of rfl) rfl (w_call (vs := [_, _, _]) (fun _=>rfl) Tryz.call35 (fun _=>rfl) rfl (disk_crash da a sda M _ _ o.torn hI.ra (fun p hp => by have := hI.ok.wa.inr p hp; have := hI.ra.1.1; have := hI.ok.wa.len; omega) (by have := hI.ok.wa.pend; omega) hit (by rw [List.length_take]; omega) t1b t2b) (by repeat (first | exact Pull.nil _ | (apply Pull.cons; (focus (repeat (first | exact One.here _ _ | apply One.there))))))) ?_ no_pan
         rintro _ _ ⟨_, ⟨sda1, rfl, hRa1, rfl⟩, rfl⟩
         refine ops_nil ?_
         refine nx_slots (env' := [(2, _), (7, _), (8, _), (10, _), (14, _), (15, _), (16, _), (17, _), (18, _)]) [2, 7, 8, 10, 14, 15, 16, 17, 18] rfl (fun _=>rfl) ?_
         refine nx_next ?_
         refine at_seq ?_
         refine at_region ?_
         refine op_v (p_move (fun _=>rfl)) ?_
         refine op_v (p_move (fun _=>rfl)) ?_
         refine op_v (p_fieldAddr0 (off := 2) Tryz.underlying78 rfl rfl Tryz.sizeOf3 (fun _=>rfl)) ?_
         refine op_r (by repeat (first | exact Has.here _ | apply Has.there)) (p_load Tryz.isAgg3 (fun _=>rfl) (by rfl)) rfl rfl ?_
         refine ops_eff (fun _=>rfl) (fits_of rfl) rfl (w_call (vs := [_, _, _]) (fun _=>rfl) Tryz.call35 (fun _=>rfl) rfl (disk_crash db b sdb M _ _ o.n hI.rb (fun p hp => by have := hI.ok.wb.inr p hp; have := hI.rb.1.1; have := hI.ok.wb.len; omega) (by have := hI.ok.wb.pend; omega) hit (by rw [List.length_take]; omega) n1b n2b) (by repeat (first | exact Pull.nil _ | (apply Pull.cons; (focus (repeat (first | exact One.here _ _ | apply One.there))))))) ?_ no_pan
         rintro _ _ ⟨_, ⟨sdb1, rfl, hRb1, rfl⟩, rfl⟩
         refine ops_nil ?_
         refine nx_next ?_
         refine at_seq ?_
         have hwa := hI.ok.wa.crash hI.ra.1.1 (o.zs.take (min o.zs.length 10)) o.torn
         have hwb := hI.ok.wb.crash hI.rb.1.1 (o.zs.take (min o.zs.length 10)) o.n
         obtain ⟨c2, he2, hs2, hT2, hSv2⟩ := hI.sv.open (o.zs.take (min o.zs.length 10)) (o.zs.take (min o.zs.length 10)) o.torn o.n
         have hok2 := (open_ok hwa hwb (by omega) (by omega)).co c2 hs2
         obtain ⟨dA, hdA⟩ : ∃ x, x = da.crash (o.zs.take (min o.zs.length 10)) o.torn := ⟨_, rfl⟩
         obtain ⟨dB, hdB⟩ : ∃ x, x = db.crash (o.zs.take (min o.zs.length 10)) o.n := ⟨_, rfl⟩
         rw [← hdA] at hwa hs2 he2 hSv2 hok2 hRa1
         rw [← hdB] at hwb hs2 he2 hSv2 hok2 hRb1
         obtain ⟨q, hq⟩ : ∃ q, q = openS dA dB := ⟨_, rfl⟩
         rw [← hq] at hs2 he2 hSv2 hok2
         refine at_region ?_
         refine op_v (p_move (fun _=>rfl)) ?_
         refine op_v (p_move (fun _=>rfl)) ?_
         refine ops_eff (fun _=>rfl) (fits_of rfl) rfl (w_call (vs := [_, _]) (fun _=>rfl) Tryz.call23 (fun _=>rfl) rfl (sopen_any a b n1 n2 0 dA dB none none sda1 sdb1 pa Tx Tg zx zg hab hRa1 hRb1 hwa hwb (by omega) (by omega) (by omega) (by omega)) (by repeat (first | exact Pull.nil _ | (apply Pull.cons; (focus (repeat (first | exact One.here _ _ | apply One.there))))))) ?_ no_pan
         rintro _ _ ⟨_, ⟨v2, ss2, sr2, sja2, sjb2, sda2, sdb2, rfl, hC2, hRa2, hRb2, rfl⟩, rfl⟩
         rw [← hq] at hC2 hRa2 hRb2 ⊢
         rw [hs2] at hC2
         obtain ⟨sp2, rfl, hC2⟩ := hC2
         rw [he2]
         have hit2 := hok2.items (by omega) (by omega)
         refine op_v (p_move (fun _=>rfl)) ?_
         refine op_v (p_extract (fun _=>rfl) rfl) ?_
         refine op_v (p_extract (fun _=>rfl) rfl) ?_
         refine op_v (p_assign (fun _=>rfl)) ?_
         refine op_v (p_assign (fun _=>rfl)) ?_
         refine ops_nil ?_
         refine nx_slots (env' := [(2, _), (7, _), (8, _), (10, _), (14, _), (15, _), (16, _), (19, _), (20, _)]) [2, 7, 8, 10, 14, 15, 16, 19, 20] rfl (fun _=>rfl) ?_
         refine nx_next ?_
         refine at_seq ?_
         refine at_seq ?_
         refine at_region ?_
         refine op_v (p_move (fun _=>rfl)) ?_
         first | refine op_v (p_neq_nat (n := 0) (fun _=>rfl) (fun _=>rfl)) ?_ | refine op_v (p_neq (fun _=>rfl) (fun _=>rfl)) ?_
         refine op_v (p_move (fun _=>rfl)) ?_
         first | refine ops_split (t := 131) (fun _=>rfl) rfl (fun hgg3 => ?_) (fun hgg3 => ?_) | refine ops_split_bool (t := 131) (fun _=>rfl) rfl (fun hgg3 => ?_) (fun hgg3 => ?_)
         ·
          exfalso; first | exact hgg3 rfl | (cases hgg3; done) | contradiction | omega | (simp at hgg3; done) | (simp at hgg3; omega) | (simp_all; done) | (simp_all; omega)
         ·
          refine op_wg (fun _=>rfl) (p_move (fun _=>rfl)) rfl rfl ?_
          first | refine op_wg (fun _=>rfl) (p_eql_nil_nil Tryz.underlying57 (fun _=>rfl) (fun _=>rfl)) rfl rfl ?_ | refine op_wg (fun _=>rfl) (p_eql_ptr_nil Tryz.underlying57 (fun _=>rfl) (fun _=>rfl)) rfl rfl ?_
          refine op_v (p_pick_f (fun _=>rfl) (fun _=>rfl)) ?_
          refine ops_nil ?_
          refine nx_next ?_
          refine at_if_bool (fun _=>rfl) (fun hgg4 => ?_) (fun hgg4 => ?_)
          ·
           exfalso; first | exact hgg4 rfl | (cases hgg4; done) | contradiction | omega | (simp at hgg4; done) | (simp at hgg4; omega) | (simp_all; done) | (simp_all; omega)
          ·
           refine at_skip ?_
           refine nx_next ?_
           refine at_seq ?_
           refine at_region ?_
           refine op_v (p_move (fun _=>rfl)) ?_
           refine ops_eff (fun _=>rfl) (fits_of rfl) rfl (w_call (vs := [_]) (fun _=>rfl) Tryz.call26 (fun _=>rfl) rfl (core_items c2 sp2 a b ss2 sr2 sja2 sjb2 hit2 hC2) (by repeat (first | exact Pull.nil _ | (apply Pull.cons; (focus (repeat (first | exact One.here _ _ | apply One.there))))))) ?_ no_pan
           rintro _ _ ⟨_, ⟨sv3, hv3, rfl⟩, rfl⟩
           refine op_v (p_assign (fun _=>rfl)) ?_
           refine ops_nil ?_
           refine nx_next ?_
           refine at_seq ?_
           refine at_region ?_
           refine op_v (p_move (fun _=>rfl)) ?_
           refine op_v (p_move (fun _=>rfl)) ?_
           refine op_e (w_callR (vs := [_, _]) (fun _=>rfl) Tryz.call25 (fun _=>rfl) rfl (same_rows hv3 hI.su hit2) (by repeat (first | exact Pull.nil _ | (apply Pull.cons; (focus (repeat (first | exact One.here _ _ | apply One.there))))))) (fun _=>rfl) rfl rfl ?_
           rintro _ _ ⟨rfl, rfl⟩
           refine op_v (p_assign (fun _=>rfl)) ?_
           refine ops_nil ?_
           refine nx_slots (env' := [(2, _), (7, _), (8, _), (10, _), (15, _), (16, _), (19, _), (21, _), (22, _)]) [2, 7, 8, 10, 15, 16, 19, 21, 22] rfl (fun _=>rfl) ?_
           refine nx_next ?_
           refine at_seq ?_
           refine at_seq ?_
           refine at_region ?_
           refine op_v (p_assign (fun _=>rfl)) ?_
           refine ops_nil ?_
           refine nx_next ?_
           refine at_block ?_
           refine at_slots (env' := [(22, _), (23, _), (2, _), (7, _), (8, _), (10, _), (15, _), (16, _), (19, _), (21, _)]) [22, 23, 2, 7, 8, 10, 15, 16, 19, 21] rfl (fun _=>rfl) ?_
           refine at_loopB (e0 := [(22, _), (23, _)]) (H0 := _) (n := _) (fun m e H => ∃ (kk : Nat), m = ts.length - kk ∧ (kk ≤ ts.length) ∧ e = [(22, .bool (decide (c2.its = co.its ∨ c2.its ∈ ts.take kk))), (23, .int .i64 (kk : Int))] ∧ H = []) (by exact ⟨0, rfl, Nat.zero_le _, by simp, rfl⟩) (by repeat (first | exact Pull.nil _ | (apply Pull.cons; (focus (repeat (first | exact One.here _ _ | apply One.there)))))) ?_
           rintro _ _ _ ⟨kk, rfl, hkk, rfl, rfl⟩
           refine at_seq ?_
           refine at_seq ?_
           refine at_region ?_
           refine op_v (p_move (fun _=>rfl)) ?_
           refine op_v (p_move (fun _=>rfl)) ?_
           refine op_v (p_len_slice Tryz.underlying80 (fun _=>rfl)) ?_
           first | refine op_v (p_lss_nat (fun _=>rfl) (fun _=>rfl)) ?_ | refine op_v (p_lss (fun _=>rfl) (fun _=>rfl)) ?_
           refine ops_nil ?_
           refine nx_next ?_
           first | refine at_if (fun _=>rfl) (fun hlk => ?_) (fun hlk => ?_) | refine at_if_bool (fun _=>rfl) (fun hlk => ?_) (fun hlk => ?_)
           ·
            refine at_skip ?_
            refine nx_next ?_
            refine at_seq ?_
            refine at_block ?_
            obtain ⟨v7, hv7⟩ : ∃ v, vts[kk]? = some v := ⟨_, List.getElem?_eq_getElem (by omega)⟩
            obtain ⟨l7, hl7⟩ : ∃ l, ts[kk]? = some l := ⟨_, List.getElem?_eq_getElem (by omega)⟩
            obtain ⟨g7, cap7, cur7, z7, hq7, rfl, hin7⟩ := row_in hrt (by omega)
            injection hq7 with e71 e72 e73
            subst e71
            have hc7 := hin7.get kk v7 hv7
            refine at_region ?_
            refine op_v (p_move (fun _=>rfl)) ?_
            refine op_v (p_move (fun _=>rfl)) ?_
            first | refine ops_split (t := 147) (fun _=>rfl) rfl (fun hf1 => ?_) (fun hf1 => ?_) | refine ops_split_bool (t := 147) (fun _=>rfl) rfl (fun hf1 => ?_) (fun hf1 => ?_)
            ·
             refine op_skip (fun _=>rfl) rfl ?_
             refine op_skip (fun _=>rfl) rfl ?_
             refine op_skip (fun _=>rfl) rfl ?_
             refine op_skip (fun _=>rfl) rfl ?_
             refine op_skip (fun _=>rfl) rfl ?_
             refine op_skip (fun _=>rfl) rfl ?_
             refine op_v (p_pick_t (fun _=>rfl) (fun _=>rfl)) ?_
             refine op_v (p_assign (fun _=>rfl)) ?_
             refine ops_nil ?_
             refine nx_slots (env' := [(2, _), (7, _), (8, _), (10, _), (15, _), (16, _), (19, _), (21, _), (22, _), (23, _)]) [2, 7, 8, 10, 15, 16, 19, 21, 22, 23] rfl (fun _=>rfl) ?_
             refine nx_block_normal ?_
             refine nx_next ?_
             refine at_region ?_
             refine op_v (p_move (fun _=>rfl)) ?_
             first | (refine op_v (p_add_nat (n := 1) (fun _=>rfl) (fun _=>rfl) ?_) ?_; (focus (omega))) | (refine op_v (p_add (fun _=>rfl) (fun _=>rfl) (IntWalk.i64_in _ ?_)) ?_; (focus (omega)))
             refine op_v (p_assign (fun _=>rfl)) ?_
             refine ops_nil ?_
             refine nx_slots (env' := [(22, _), (23, _), (2, _), (7, _), (8, _), (10, _), (15, _), (16, _), (19, _), (21, _)]) [22, 23, 2, 7, 8, 10, 15, 16, 19, 21] rfl (fun _=>rfl) ?_
             refine nx_againB (e' := [(22, _), (23, _)]) (m := _) (H' := _) (by first | exact ⟨kk + 1, rfl, by omega, by rw [← found_yes hf1], rfl⟩ | exact ⟨kk + 1, rfl, by omega, by rw [← found_no hf1 hl7], rfl⟩)
            ·
             refine op_wg (fun _=>rfl) (p_move (fun _=>rfl)) rfl rfl ?_
             refine op_wg (fun _=>rfl) (p_move (fun _=>rfl)) rfl rfl ?_
             refine op_wg (fun _=>rfl) (p_move (fun _=>rfl)) rfl rfl ?_
             first | (refine op_wg (fun _=>rfl) (p_indexAddr_nat0 Tryz.underlying80 Tryz.sizeOf43 (fun _=>rfl) (fun _=>rfl) ?_) rfl rfl ?_; (focus (omega))) | (refine op_wg (fun _=>rfl) (p_indexAddr_nat1 Tryz.underlying80 Tryz.sizeOf43 (fun _=>rfl) (fun _=>rfl) ?_) rfl rfl ?_; (focus (omega)))
             refine op_rg (fun _=>rfl) (by repeat (first | exact Has.here _ | apply Has.there)) (p_load Tryz.isAgg43 (fun _=>rfl) (by first | exact hc7 | (rw [Nat.mul_one]; exact hc7) | simpa using hc7)) rfl rfl ?_
             refine op_e (w_callR (vs := [_, _]) (fun _=>rfl) Tryz.call25 (fun _=>rfl) rfl (same_tr hv3 (htr kk v7 l7 hv7 hl7) hit2) (by repeat (first | exact Pull.nil _ | (apply Pull.cons; (focus (repeat (first | exact One.here _ _ | apply One.there))))))) (fun _=>rfl) rfl rfl ?_
             rintro _ _ ⟨rfl, rfl⟩
             refine op_v (p_pick_f (fun _=>rfl) (fun _=>rfl)) ?_
             refine op_v (p_assign (fun _=>rfl)) ?_
             refine ops_nil ?_
             refine nx_slots (env' := [(2, _), (7, _), (8, _), (10, _), (15, _), (16, _), (19, _), (21, _), (22, _), (23, _)]) [2, 7, 8, 10, 15, 16, 19, 21, 22, 23] rfl (fun _=>rfl) ?_
             refine nx_block_normal ?_
             refine nx_next ?_
             refine at_region ?_
             refine op_v (p_move (fun _=>rfl)) ?_
             first | (refine op_v (p_add_nat (n := 1) (fun _=>rfl) (fun _=>rfl) ?_) ?_; (focus (omega))) | (refine op_v (p_add (fun _=>rfl) (fun _=>rfl) (IntWalk.i64_in _ ?_)) ?_; (focus (omega)))
             refine op_v (p_assign (fun _=>rfl)) ?_
             refine ops_nil ?_
             refine nx_slots (env' := [(22, _), (23, _), (2, _), (7, _), (8, _), (10, _), (15, _), (16, _), (19, _), (21, _)]) [22, 23, 2, 7, 8, 10, 15, 16, 19, 21] rfl (fun _=>rfl) ?_
             refine nx_againB (e' := [(22, _), (23, _)]) (m := _) (H' := _) (by first | exact ⟨kk + 1, rfl, by omega, by rw [← found_yes hf1], rfl⟩ | exact ⟨kk + 1, rfl, by omega, by rw [← found_no hf1 hl7], rfl⟩)
           ·
            rw [List.take_of_length_le (show ts.length ≤ kk by omega)]
            refine at_exit ?_
            refine nx_thru (by intro h; cases h) ?_
            refine nx_thru (by intro h; cases h) ?_
            refine nx_block_exit ?_
            refine nx_next ?_
            refine at_seq ?_
            refine at_seq ?_
            refine at_region ?_
            refine op_v (p_move (fun _=>rfl)) ?_
            first | refine op_v (p_not_dec (fun _=>rfl)) ?_ | refine op_v (p_not (fun _=>rfl)) ?_
            refine ops_nil ?_
            refine nx_next ?_
            first | refine at_if (fun _=>rfl) (fun hnf => ?_) (fun hnf => ?_) | refine at_if_bool (fun _=>rfl) (fun hnf => ?_) (fun hnf => ?_)
            ·
             exfalso; exact hnf hT2
            ·
             refine at_skip ?_
             refine nx_next ?_
             refine at_seq ?_
             refine at_region ?_
             refine op_v (p_move (fun _=>rfl)) ?_
             refine op_v (p_assign (fun _=>rfl)) ?_
             refine ops_nil ?_
             refine nx_next ?_
             refine at_seq ?_
             refine at_region ?_
             refine op_v (p_move (fun _=>rfl)) ?_
             refine op_v (p_assign (fun _=>rfl)) ?_
             refine ops_nil ?_
             refine nx_next ?_
             refine at_nil ?_
             refine at_nil ?_
             refine at_region ?_
             refine op_v (p_assign (fun _=>rfl)) ?_
             refine ops_nil ?_
             refine nx_block_normal ?_
             refine nx_slots (env' := [(12, _), (14, _), (15, _), (2, _), (7, _), (8, _), (10, _), (16, _)]) [12, 14, 15, 2, 7, 8, 10, 16] rfl (fun _=>rfl) ?_
             refine nx_cutB (e' := [(12, _), (14, _), (15, _)]) (H' := _) (by first | exact ⟨co, sp, _, db, ts, _, _, ss, sr, sja, sjb, sda1, sdb, su, st, M2, ⟨⟨(hI.ok.cutA _).more (by omega), hI.mem, hRa1, hI.rb, hI.su, hI.tr, hI.sv.same (cut_keep _ _) ⟨rfl, rfl, rfl⟩⟩, by first | omega | (simp; done) | (simp; omega)⟩, rfl, rfl⟩ | exact ⟨co, sp, da, _, ts, _, _, ss, sr, sja, sjb, sda, sdb1, su, st, M2, ⟨⟨(hI.ok.cutB _).more (by omega), hI.mem, hI.ra, hRb1, hI.su, hI.tr, hI.sv.same ⟨rfl, rfl, rfl⟩ (cut_keep _ _)⟩, by first | omega | (simp; done) | (simp; omega)⟩, rfl, rfl⟩ | exact ⟨c2, sp2, q.2.2.1, q.2.2.2, [], _, _, ss2, sr2, sja2, sjb2, sda2, sdb2, sv3, [], [], ⟨⟨hok2.more (by omega), hC2, hRa2, hRb2, hv3, Tried.nil, hSv2.mono (fun l h => .inl h)⟩, by first | omega | (simp; done) | (simp; omega)⟩, rfl, rfl⟩ | exact ⟨_, sp, _, _, [], _, _, ss1, sr1, sja1, sjb1, sda1, sdb1, sf9, [], [], ⟨⟨hokc, hCc, hRac, hRbc, (row_its hic hf9), Tried.nil, hSc.mono (fun l h => .inl (h.trans hic.symm))⟩, by first | omega | (simp; done) | (simp; omega)⟩, rfl, rfl⟩ | exact ⟨_, sp, _, _, (ts ++ [fewL o.ls]), _, _, ss1, sr1, sja1, sjb1, sda1, sdb1, su, sq, M2 ++ sf8, ⟨⟨hokc, hCc, hRac, hRbc, (row_its hic hI.su), tried_add htl htr hf8 hrq, hSc _ (fun l h => h.elim (fun h => .inl (h.trans hic.symm)) (fun h => .inr (List.mem_append_left _ h))) (.inr (List.mem_append_right _ (List.mem_singleton.2 rfl)))⟩, by first | omega | (simp; done) | (simp; omega)⟩, rfl, rfl⟩ | exact ⟨_, sp, _, _, [], _, _, ss1, sr1, sja1, sjb1, sda1, sdb1, sw, [], [], ⟨⟨hoka, hCa, hRac, hRbc, (row_its hia hrw), Tried.nil, hSa.mono (fun l h => .inl (h.trans hia.symm))⟩, by first | omega | (simp; done) | (simp; omega)⟩, rfl, rfl⟩ | exact ⟨_, sp, _, _, (ts ++ [co.its ++ fewL o.ls]), _, _, ss1, sr1, sja1, sjb1, sda1, sdb1, su, sq, M2 ++ sw, ⟨⟨hoka, hCa, hRac, hRbc, (row_its hia hI.su), tried_add htl htr hrw hrq, hSa _ (fun l h => h.elim (fun h => .inl (h.trans hia.symm)) (fun h => .inr (List.mem_append_left _ h))) (.inr (List.mem_append_right _ (List.mem_singleton.2 rfl)))⟩, by first | omega | (simp; done) | (simp; omega)⟩, rfl, rfl⟩)
        ·
         refine at_seq ?_
         refine at_seq ?_
         refine at_region ?_
         first | refine op_v (p_eql_nat (n := 3) (fun _=>rfl) (fun _=>rfl)) ?_ | refine op_v (p_eql (fun _=>rfl) (fun _=>rfl)) ?_
         refine op_v (p_assign (fun _=>rfl)) ?_
         refine ops_nil ?_
         refine nx_next ?_
         first | refine at_if (fun _=>rfl) (fun hk3 => ?_) (fun hk3 => ?_) | refine at_if_bool (fun _=>rfl) (fun hk3 => ?_) (fun hk3 => ?_)
         ·
          refine at_skip ?_
          refine nx_next ?_
          first | refine at_if (fun _=>rfl) (fun hk4 => ?_) (fun hk4 => ?_) | refine at_if_bool (fun _=>rfl) (fun hk4 => ?_) (fun hk4 => ?_)
          ·
           refine at_seq ?_
           refine at_region ?_
           refine op_v (p_move (fun _=>rfl)) ?_
           refine op_v (p_fieldAddr0 (off := 1) Tryz.underlying78 rfl rfl Tryz.sizeOf43 (fun _=>rfl)) ?_
           refine op_r (by repeat (first | exact Has.here _ | apply Has.there)) (p_load Tryz.isAgg43 (fun _=>rfl) (by rfl)) rfl rfl ?_
           refine ops_eff (fun _=>rfl) (fits_of rfl) rfl (w_call (vs := [_]) (fun _=>rfl) Tryz.call37 (fun _=>rfl) rfl (few_mem hsl) (by repeat (first | exact Pull.nil _ | (apply Pull.cons; (focus (repeat (first | exact One.here _ _ | apply One.there))))))) ?_ no_pan
           rintro _ _ ⟨_, ⟨sf, hf, rfl⟩, rfl⟩
           refine ops_eff (fun _=>rfl) (fits_of rfl) rfl (w_call (vs := [_, _]) (fun _=>rfl) Tryz.call36 (fun _=>rfl) rfl (core_cpt co sp a b n1 n2 (4 * i + 4) da db ss sr sja sjb sda sdb sf _ (fewL o.ls) pa Tx Tg zx zg hI.ok (by omega) (by omega) (by omega) (by omega) (by omega) hI.mem hI.ra hI.rb hf (by omega) hfb) (by repeat (first | exact Pull.nil _ | (apply Pull.cons; (focus (repeat (first | exact One.here _ _ | apply One.there))))))) ?_ no_pan
           rintro _ _ ⟨_, ⟨ss1, sr1, sja1, sjb1, sda1, sdb1, rfl, hCc, hRac, hRbc, rfl⟩, rfl⟩
           have hokc := (hI.ok.cpt (by omega) (by omega) (fewL o.ls)).more (show 4 * i + 4 + 3 ≤ 4 * (i + 1) + 4 by omega)
           rcases hI.sv.cpt (fewL o.ls) hfb with ⟨hec, hic, hSc⟩ | ⟨hec, hic, hSc⟩
           ·
            first | refine op_v (p_eql_nat (n := 0) (fun _=>rfl) (fun _=>rfl)) ?_ | refine op_v (p_eql (fun _=>rfl) (fun _=>rfl)) ?_
            refine ops_nil ?_
            refine nx_slots (env' := [(2, _), (7, _), (8, _), (10, _), (12, _), (14, _), (15, _), (16, _), (17, _), (167, _)]) [2, 7, 8, 10, 12, 14, 15, 16, 17, 167] rfl (fun _=>rfl) ?_
            refine nx_next ?_
            first | refine at_if (fun _=>rfl) (fun hez => ?_) (fun hez => ?_) | refine at_if_bool (fun _=>rfl) (fun hez => ?_) (fun hez => ?_)
            ·
             refine at_seq ?_
             refine at_region ?_
             refine op_v (p_fieldAddr0 (off := 1) Tryz.underlying78 rfl rfl Tryz.sizeOf43 (fun _=>rfl)) ?_
             refine op_r (by repeat (first | exact Has.here _ | apply Has.there)) (p_load Tryz.isAgg43 (fun _=>rfl) (by rfl)) rfl rfl ?_
             refine ops_eff (fun _=>rfl) (fits_of rfl) rfl (w_call (vs := [_]) (fun _=>rfl) Tryz.call37 (fun _=>rfl) rfl (few_mem hsl) (by repeat (first | exact Pull.nil _ | (apply Pull.cons; (focus (repeat (first | exact One.here _ _ | apply One.there))))))) ?_ no_pan
             rintro _ _ ⟨_, ⟨sf9, hf9, rfl⟩, rfl⟩
             refine op_v (p_assign (fun _=>rfl)) ?_
             refine ops_nil ?_
             refine nx_next ?_
             refine at_nil ?_
             refine at_nil ?_
             refine at_region ?_
             refine op_v (p_assign (fun _=>rfl)) ?_
             refine ops_nil ?_
             refine nx_block_normal ?_
             refine nx_slots (env' := [(12, _), (14, _), (15, _), (2, _), (7, _), (8, _), (10, _), (16, _)]) [12, 14, 15, 2, 7, 8, 10, 16] rfl (fun _=>rfl) ?_
             refine nx_cutB (e' := [(12, _), (14, _), (15, _)]) (H' := _) (by first | exact ⟨co, sp, _, db, ts, _, _, ss, sr, sja, sjb, sda1, sdb, su, st, M2, ⟨⟨(hI.ok.cutA _).more (by omega), hI.mem, hRa1, hI.rb, hI.su, hI.tr, hI.sv.same (cut_keep _ _) ⟨rfl, rfl, rfl⟩⟩, by first | omega | (simp; done) | (simp; omega)⟩, rfl, rfl⟩ | exact ⟨co, sp, da, _, ts, _, _, ss, sr, sja, sjb, sda, sdb1, su, st, M2, ⟨⟨(hI.ok.cutB _).more (by omega), hI.mem, hI.ra, hRb1, hI.su, hI.tr, hI.sv.same ⟨rfl, rfl, rfl⟩ (cut_keep _ _)⟩, by first | omega | (simp; done) | (simp; omega)⟩, rfl, rfl⟩ | exact ⟨c2, sp2, q.2.2.1, q.2.2.2, [], _, _, ss2, sr2, sja2, sjb2, sda2, sdb2, sv3, [], [], ⟨⟨hok2.more (by omega), hC2, hRa2, hRb2, hv3, Tried.nil, hSv2.mono (fun l h => .inl h)⟩, by first | omega | (simp; done) | (simp; omega)⟩, rfl, rfl⟩ | exact ⟨_, sp, _, _, [], _, _, ss1, sr1, sja1, sjb1, sda1, sdb1, sf9, [], [], ⟨⟨hokc, hCc, hRac, hRbc, (row_its hic hf9), Tried.nil, hSc.mono (fun l h => .inl (h.trans hic.symm))⟩, by first | omega | (simp; done) | (simp; omega)⟩, rfl, rfl⟩ | exact ⟨_, sp, _, _, (ts ++ [fewL o.ls]), _, _, ss1, sr1, sja1, sjb1, sda1, sdb1, su, sq, M2 ++ sf8, ⟨⟨hokc, hCc, hRac, hRbc, (row_its hic hI.su), tried_add htl htr hf8 hrq, hSc _ (fun l h => h.elim (fun h => .inl (h.trans hic.symm)) (fun h => .inr (List.mem_append_left _ h))) (.inr (List.mem_append_right _ (List.mem_singleton.2 rfl)))⟩, by first | omega | (simp; done) | (simp; omega)⟩, rfl, rfl⟩ | exact ⟨_, sp, _, _, [], _, _, ss1, sr1, sja1, sjb1, sda1, sdb1, sw, [], [], ⟨⟨hoka, hCa, hRac, hRbc, (row_its hia hrw), Tried.nil, hSa.mono (fun l h => .inl (h.trans hia.symm))⟩, by first | omega | (simp; done) | (simp; omega)⟩, rfl, rfl⟩ | exact ⟨_, sp, _, _, (ts ++ [co.its ++ fewL o.ls]), _, _, ss1, sr1, sja1, sjb1, sda1, sdb1, su, sq, M2 ++ sw, ⟨⟨hoka, hCa, hRac, hRbc, (row_its hia hI.su), tried_add htl htr hrw hrq, hSa _ (fun l h => h.elim (fun h => .inl (h.trans hia.symm)) (fun h => .inr (List.mem_append_left _ h))) (.inr (List.mem_append_right _ (List.mem_singleton.2 rfl)))⟩, by first | omega | (simp; done) | (simp; omega)⟩, rfl, rfl⟩)
            ·
             exact absurd hec hez
           ·
            first | refine op_v (p_eql_nat (n := 0) (fun _=>rfl) (fun _=>rfl)) ?_ | refine op_v (p_eql (fun _=>rfl) (fun _=>rfl)) ?_
            refine ops_nil ?_
            refine nx_slots (env' := [(2, _), (7, _), (8, _), (10, _), (12, _), (14, _), (15, _), (16, _), (17, _), (167, _)]) [2, 7, 8, 10, 12, 14, 15, 16, 17, 167] rfl (fun _=>rfl) ?_
            refine nx_next ?_
            first | refine at_if (fun _=>rfl) (fun hez => ?_) (fun hez => ?_) | refine at_if_bool (fun _=>rfl) (fun hez => ?_) (fun hez => ?_)
            ·
             exact absurd hez hec
            ·
             refine at_region ?_
             refine op_v (p_move (fun _=>rfl)) ?_
             refine op_v (p_fieldAddr0 (off := 1) Tryz.underlying78 rfl rfl Tryz.sizeOf43 (fun _=>rfl)) ?_
             refine op_r (by repeat (first | exact Has.here _ | apply Has.there)) (p_load Tryz.isAgg43 (fun _=>rfl) (by rfl)) rfl rfl ?_
             refine ops_eff (fun _=>rfl) (fits_of rfl) rfl (w_call (vs := [_]) (fun _=>rfl) Tryz.call37 (fun _=>rfl) rfl (few_mem hsl) (by repeat (first | exact Pull.nil _ | (apply Pull.cons; (focus (repeat (first | exact One.here _ _ | apply One.there))))))) ?_ no_pan
             rintro _ _ ⟨_, ⟨sf8, hf8, rfl⟩, rfl⟩
             obtain ⟨g8, c8, hg8⟩ := hf8.form
             subst hg8
             refine op_e (w_buildSlice (vs := [_]) (cs := [_]) Tryz.underlying80 Tryz.sizeOf43 Tryz.zeroValue43 (fun _=>rfl) rfl rfl rfl rfl rfl) (fun _=>rfl) rfl rfl ?_
             rintro _ _ ⟨gb, rfl, rfl⟩
             refine op_e (w_append (by_ := 24) (news := [_]) Tryz.underlying80 (rfl : Tryz.prog.info? 43 = some Tryz.t43) rfl rfl rfl rfl (fun _=>rfl) hrt (fun _=>rfl) (by repeat (first | exact One.here _ _ | apply One.there)) (by repeat (first | exact Has.here _ | apply Has.there)) (by rfl) rfl (by simp [Value.oneCell']) (by decide) (by omega) (by omega)) (fun _=>rfl) rfl rfl ?_
             rintro _ _ ⟨sq, hrq, rfl⟩
             obtain ⟨gq, cq, rfl⟩ := hrq.form
             refine ops_join (s1 := M2) (s2 := sf8) (by repeat (first | exact One.here _ _ | apply One.there)) (by repeat (first | exact One.here _ _ | apply One.there)) ?_
             refine op_v (p_assign (fun _=>rfl)) ?_
             refine ops_nil ?_
             refine nx_block_normal ?_
             refine nx_slots (env' := [(12, _), (14, _), (15, _), (2, _), (7, _), (8, _), (10, _), (16, _)]) [12, 14, 15, 2, 7, 8, 10, 16] rfl (fun _=>rfl) ?_
             refine nx_cutB (e' := [(12, _), (14, _), (15, _)]) (H' := _) (by first | exact ⟨co, sp, _, db, ts, _, _, ss, sr, sja, sjb, sda1, sdb, su, st, M2, ⟨⟨(hI.ok.cutA _).more (by omega), hI.mem, hRa1, hI.rb, hI.su, hI.tr, hI.sv.same (cut_keep _ _) ⟨rfl, rfl, rfl⟩⟩, by first | omega | (simp; done) | (simp; omega)⟩, rfl, rfl⟩ | exact ⟨co, sp, da, _, ts, _, _, ss, sr, sja, sjb, sda, sdb1, su, st, M2, ⟨⟨(hI.ok.cutB _).more (by omega), hI.mem, hI.ra, hRb1, hI.su, hI.tr, hI.sv.same ⟨rfl, rfl, rfl⟩ (cut_keep _ _)⟩, by first | omega | (simp; done) | (simp; omega)⟩, rfl, rfl⟩ | exact ⟨c2, sp2, q.2.2.1, q.2.2.2, [], _, _, ss2, sr2, sja2, sjb2, sda2, sdb2, sv3, [], [], ⟨⟨hok2.more (by omega), hC2, hRa2, hRb2, hv3, Tried.nil, hSv2.mono (fun l h => .inl h)⟩, by first | omega | (simp; done) | (simp; omega)⟩, rfl, rfl⟩ | exact ⟨_, sp, _, _, [], _, _, ss1, sr1, sja1, sjb1, sda1, sdb1, sf9, [], [], ⟨⟨hokc, hCc, hRac, hRbc, (row_its hic hf9), Tried.nil, hSc.mono (fun l h => .inl (h.trans hic.symm))⟩, by first | omega | (simp; done) | (simp; omega)⟩, rfl, rfl⟩ | exact ⟨_, sp, _, _, (ts ++ [fewL o.ls]), _, _, ss1, sr1, sja1, sjb1, sda1, sdb1, su, sq, M2 ++ sf8, ⟨⟨hokc, hCc, hRac, hRbc, (row_its hic hI.su), tried_add htl htr hf8 hrq, hSc _ (fun l h => h.elim (fun h => .inl (h.trans hic.symm)) (fun h => .inr (List.mem_append_left _ h))) (.inr (List.mem_append_right _ (List.mem_singleton.2 rfl)))⟩, by first | omega | (simp; done) | (simp; omega)⟩, rfl, rfl⟩ | exact ⟨_, sp, _, _, [], _, _, ss1, sr1, sja1, sjb1, sda1, sdb1, sw, [], [], ⟨⟨hoka, hCa, hRac, hRbc, (row_its hia hrw), Tried.nil, hSa.mono (fun l h => .inl (h.trans hia.symm))⟩, by first | omega | (simp; done) | (simp; omega)⟩, rfl, rfl⟩ | exact ⟨_, sp, _, _, (ts ++ [co.its ++ fewL o.ls]), _, _, ss1, sr1, sja1, sjb1, sda1, sdb1, su, sq, M2 ++ sw, ⟨⟨hoka, hCa, hRac, hRbc, (row_its hia hI.su), tried_add htl htr hrw hrq, hSa _ (fun l h => h.elim (fun h => .inl (h.trans hia.symm)) (fun h => .inr (List.mem_append_left _ h))) (.inr (List.mem_append_right _ (List.mem_singleton.2 rfl)))⟩, by first | omega | (simp; done) | (simp; omega)⟩, rfl, rfl⟩)
          ·
           exfalso; omega
         ·
          refine at_region ?_
          first | refine op_v (p_eql_nat (n := 4) (fun _=>rfl) (fun _=>rfl)) ?_ | refine op_v (p_eql (fun _=>rfl) (fun _=>rfl)) ?_
          refine op_v (p_assign (fun _=>rfl)) ?_
          refine ops_nil ?_
          refine nx_slots (env' := [(2, _), (7, _), (8, _), (10, _), (12, _), (14, _), (15, _), (16, _), (17, _), (159, _)]) [2, 7, 8, 10, 12, 14, 15, 16, 17, 159] rfl (fun _=>rfl) ?_
          refine nx_next ?_
          first | refine at_if (fun _=>rfl) (fun hk4 => ?_) (fun hk4 => ?_) | refine at_if_bool (fun _=>rfl) (fun hk4 => ?_) (fun hk4 => ?_)
          ·
           refine at_seq ?_
           refine at_region ?_
           refine op_v (p_move (fun _=>rfl)) ?_
           refine op_v (p_fieldAddr0 (off := 1) Tryz.underlying78 rfl rfl Tryz.sizeOf43 (fun _=>rfl)) ?_
           refine op_r (by repeat (first | exact Has.here _ | apply Has.there)) (p_load Tryz.isAgg43 (fun _=>rfl) (by rfl)) rfl rfl ?_
           refine ops_eff (fun _=>rfl) (fits_of rfl) rfl (w_call (vs := [_]) (fun _=>rfl) Tryz.call37 (fun _=>rfl) rfl (few_mem hsl) (by repeat (first | exact Pull.nil _ | (apply Pull.cons; (focus (repeat (first | exact One.here _ _ | apply One.there))))))) ?_ no_pan
           rintro _ _ ⟨_, ⟨sf, hf, rfl⟩, rfl⟩
           refine ops_eff (fun _=>rfl) (fits_of rfl) rfl (w_call (vs := [_, _]) (fun _=>rfl) Tryz.call36 (fun _=>rfl) rfl (core_cpt co sp a b n1 n2 (4 * i + 4) da db ss sr sja sjb sda sdb sf _ (fewL o.ls) pa Tx Tg zx zg hI.ok (by omega) (by omega) (by omega) (by omega) (by omega) hI.mem hI.ra hI.rb hf (by omega) hfb) (by repeat (first | exact Pull.nil _ | (apply Pull.cons; (focus (repeat (first | exact One.here _ _ | apply One.there))))))) ?_ no_pan
           rintro _ _ ⟨_, ⟨ss1, sr1, sja1, sjb1, sda1, sdb1, rfl, hCc, hRac, hRbc, rfl⟩, rfl⟩
           have hokc := (hI.ok.cpt (by omega) (by omega) (fewL o.ls)).more (show 4 * i + 4 + 3 ≤ 4 * (i + 1) + 4 by omega)
           rcases hI.sv.cpt (fewL o.ls) hfb with ⟨hec, hic, hSc⟩ | ⟨hec, hic, hSc⟩
           ·
            first | refine op_v (p_eql_nat (n := 0) (fun _=>rfl) (fun _=>rfl)) ?_ | refine op_v (p_eql (fun _=>rfl) (fun _=>rfl)) ?_
            refine ops_nil ?_
            refine nx_next ?_
            first | refine at_if (fun _=>rfl) (fun hez => ?_) (fun hez => ?_) | refine at_if_bool (fun _=>rfl) (fun hez => ?_) (fun hez => ?_)
            ·
             refine at_seq ?_
             refine at_region ?_
             refine op_v (p_fieldAddr0 (off := 1) Tryz.underlying78 rfl rfl Tryz.sizeOf43 (fun _=>rfl)) ?_
             refine op_r (by repeat (first | exact Has.here _ | apply Has.there)) (p_load Tryz.isAgg43 (fun _=>rfl) (by rfl)) rfl rfl ?_
             refine ops_eff (fun _=>rfl) (fits_of rfl) rfl (w_call (vs := [_]) (fun _=>rfl) Tryz.call37 (fun _=>rfl) rfl (few_mem hsl) (by repeat (first | exact Pull.nil _ | (apply Pull.cons; (focus (repeat (first | exact One.here _ _ | apply One.there))))))) ?_ no_pan
             rintro _ _ ⟨_, ⟨sf9, hf9, rfl⟩, rfl⟩
             refine op_v (p_assign (fun _=>rfl)) ?_
             refine ops_nil ?_
             refine nx_next ?_
             refine at_nil ?_
             refine at_nil ?_
             refine at_region ?_
             refine op_v (p_assign (fun _=>rfl)) ?_
             refine ops_nil ?_
             refine nx_block_normal ?_
             refine nx_slots (env' := [(12, _), (14, _), (15, _), (2, _), (7, _), (8, _), (10, _), (16, _)]) [12, 14, 15, 2, 7, 8, 10, 16] rfl (fun _=>rfl) ?_
             refine nx_cutB (e' := [(12, _), (14, _), (15, _)]) (H' := _) (by first | exact ⟨co, sp, _, db, ts, _, _, ss, sr, sja, sjb, sda1, sdb, su, st, M2, ⟨⟨(hI.ok.cutA _).more (by omega), hI.mem, hRa1, hI.rb, hI.su, hI.tr, hI.sv.same (cut_keep _ _) ⟨rfl, rfl, rfl⟩⟩, by first | omega | (simp; done) | (simp; omega)⟩, rfl, rfl⟩ | exact ⟨co, sp, da, _, ts, _, _, ss, sr, sja, sjb, sda, sdb1, su, st, M2, ⟨⟨(hI.ok.cutB _).more (by omega), hI.mem, hI.ra, hRb1, hI.su, hI.tr, hI.sv.same ⟨rfl, rfl, rfl⟩ (cut_keep _ _)⟩, by first | omega | (simp; done) | (simp; omega)⟩, rfl, rfl⟩ | exact ⟨c2, sp2, q.2.2.1, q.2.2.2, [], _, _, ss2, sr2, sja2, sjb2, sda2, sdb2, sv3, [], [], ⟨⟨hok2.more (by omega), hC2, hRa2, hRb2, hv3, Tried.nil, hSv2.mono (fun l h => .inl h)⟩, by first | omega | (simp; done) | (simp; omega)⟩, rfl, rfl⟩ | exact ⟨_, sp, _, _, [], _, _, ss1, sr1, sja1, sjb1, sda1, sdb1, sf9, [], [], ⟨⟨hokc, hCc, hRac, hRbc, (row_its hic hf9), Tried.nil, hSc.mono (fun l h => .inl (h.trans hic.symm))⟩, by first | omega | (simp; done) | (simp; omega)⟩, rfl, rfl⟩ | exact ⟨_, sp, _, _, (ts ++ [fewL o.ls]), _, _, ss1, sr1, sja1, sjb1, sda1, sdb1, su, sq, M2 ++ sf8, ⟨⟨hokc, hCc, hRac, hRbc, (row_its hic hI.su), tried_add htl htr hf8 hrq, hSc _ (fun l h => h.elim (fun h => .inl (h.trans hic.symm)) (fun h => .inr (List.mem_append_left _ h))) (.inr (List.mem_append_right _ (List.mem_singleton.2 rfl)))⟩, by first | omega | (simp; done) | (simp; omega)⟩, rfl, rfl⟩ | exact ⟨_, sp, _, _, [], _, _, ss1, sr1, sja1, sjb1, sda1, sdb1, sw, [], [], ⟨⟨hoka, hCa, hRac, hRbc, (row_its hia hrw), Tried.nil, hSa.mono (fun l h => .inl (h.trans hia.symm))⟩, by first | omega | (simp; done) | (simp; omega)⟩, rfl, rfl⟩ | exact ⟨_, sp, _, _, (ts ++ [co.its ++ fewL o.ls]), _, _, ss1, sr1, sja1, sjb1, sda1, sdb1, su, sq, M2 ++ sw, ⟨⟨hoka, hCa, hRac, hRbc, (row_its hia hI.su), tried_add htl htr hrw hrq, hSa _ (fun l h => h.elim (fun h => .inl (h.trans hia.symm)) (fun h => .inr (List.mem_append_left _ h))) (.inr (List.mem_append_right _ (List.mem_singleton.2 rfl)))⟩, by first | omega | (simp; done) | (simp; omega)⟩, rfl, rfl⟩)
            ·
             exact absurd hec hez
           ·
            first | refine op_v (p_eql_nat (n := 0) (fun _=>rfl) (fun _=>rfl)) ?_ | refine op_v (p_eql (fun _=>rfl) (fun _=>rfl)) ?_
            refine ops_nil ?_
            refine nx_next ?_
            first | refine at_if (fun _=>rfl) (fun hez => ?_) (fun hez => ?_) | refine at_if_bool (fun _=>rfl) (fun hez => ?_) (fun hez => ?_)
            ·
             exact absurd hez hec
            ·
             refine at_region ?_
             refine op_v (p_move (fun _=>rfl)) ?_
             refine op_v (p_fieldAddr0 (off := 1) Tryz.underlying78 rfl rfl Tryz.sizeOf43 (fun _=>rfl)) ?_
             refine op_r (by repeat (first | exact Has.here _ | apply Has.there)) (p_load Tryz.isAgg43 (fun _=>rfl) (by rfl)) rfl rfl ?_
             refine ops_eff (fun _=>rfl) (fits_of rfl) rfl (w_call (vs := [_]) (fun _=>rfl) Tryz.call37 (fun _=>rfl) rfl (few_mem hsl) (by repeat (first | exact Pull.nil _ | (apply Pull.cons; (focus (repeat (first | exact One.here _ _ | apply One.there))))))) ?_ no_pan
             rintro _ _ ⟨_, ⟨sf8, hf8, rfl⟩, rfl⟩
             obtain ⟨g8, c8, hg8⟩ := hf8.form
             subst hg8
             refine op_e (w_buildSlice (vs := [_]) (cs := [_]) Tryz.underlying80 Tryz.sizeOf43 Tryz.zeroValue43 (fun _=>rfl) rfl rfl rfl rfl rfl) (fun _=>rfl) rfl rfl ?_
             rintro _ _ ⟨gb, rfl, rfl⟩
             refine op_e (w_append (by_ := 24) (news := [_]) Tryz.underlying80 (rfl : Tryz.prog.info? 43 = some Tryz.t43) rfl rfl rfl rfl (fun _=>rfl) hrt (fun _=>rfl) (by repeat (first | exact One.here _ _ | apply One.there)) (by repeat (first | exact Has.here _ | apply Has.there)) (by rfl) rfl (by simp [Value.oneCell']) (by decide) (by omega) (by omega)) (fun _=>rfl) rfl rfl ?_
             rintro _ _ ⟨sq, hrq, rfl⟩
             obtain ⟨gq, cq, rfl⟩ := hrq.form
             refine ops_join (s1 := M2) (s2 := sf8) (by repeat (first | exact One.here _ _ | apply One.there)) (by repeat (first | exact One.here _ _ | apply One.there)) ?_
             refine op_v (p_assign (fun _=>rfl)) ?_
             refine ops_nil ?_
             refine nx_slots (env' := [(2, _), (7, _), (8, _), (10, _), (12, _), (14, _), (15, _), (16, _)]) [2, 7, 8, 10, 12, 14, 15, 16] rfl (fun _=>rfl) ?_
             refine nx_block_normal ?_
             refine nx_slots (env' := [(12, _), (14, _), (15, _), (2, _), (7, _), (8, _), (10, _), (16, _)]) [12, 14, 15, 2, 7, 8, 10, 16] rfl (fun _=>rfl) ?_
             refine nx_cutB (e' := [(12, _), (14, _), (15, _)]) (H' := _) (by first | exact ⟨co, sp, _, db, ts, _, _, ss, sr, sja, sjb, sda1, sdb, su, st, M2, ⟨⟨(hI.ok.cutA _).more (by omega), hI.mem, hRa1, hI.rb, hI.su, hI.tr, hI.sv.same (cut_keep _ _) ⟨rfl, rfl, rfl⟩⟩, by first | omega | (simp; done) | (simp; omega)⟩, rfl, rfl⟩ | exact ⟨co, sp, da, _, ts, _, _, ss, sr, sja, sjb, sda, sdb1, su, st, M2, ⟨⟨(hI.ok.cutB _).more (by omega), hI.mem, hI.ra, hRb1, hI.su, hI.tr, hI.sv.same ⟨rfl, rfl, rfl⟩ (cut_keep _ _)⟩, by first | omega | (simp; done) | (simp; omega)⟩, rfl, rfl⟩ | exact ⟨c2, sp2, q.2.2.1, q.2.2.2, [], _, _, ss2, sr2, sja2, sjb2, sda2, sdb2, sv3, [], [], ⟨⟨hok2.more (by omega), hC2, hRa2, hRb2, hv3, Tried.nil, hSv2.mono (fun l h => .inl h)⟩, by first | omega | (simp; done) | (simp; omega)⟩, rfl, rfl⟩ | exact ⟨_, sp, _, _, [], _, _, ss1, sr1, sja1, sjb1, sda1, sdb1, sf9, [], [], ⟨⟨hokc, hCc, hRac, hRbc, (row_its hic hf9), Tried.nil, hSc.mono (fun l h => .inl (h.trans hic.symm))⟩, by first | omega | (simp; done) | (simp; omega)⟩, rfl, rfl⟩ | exact ⟨_, sp, _, _, (ts ++ [fewL o.ls]), _, _, ss1, sr1, sja1, sjb1, sda1, sdb1, su, sq, M2 ++ sf8, ⟨⟨hokc, hCc, hRac, hRbc, (row_its hic hI.su), tried_add htl htr hf8 hrq, hSc _ (fun l h => h.elim (fun h => .inl (h.trans hic.symm)) (fun h => .inr (List.mem_append_left _ h))) (.inr (List.mem_append_right _ (List.mem_singleton.2 rfl)))⟩, by first | omega | (simp; done) | (simp; omega)⟩, rfl, rfl⟩ | exact ⟨_, sp, _, _, [], _, _, ss1, sr1, sja1, sjb1, sda1, sdb1, sw, [], [], ⟨⟨hoka, hCa, hRac, hRbc, (row_its hia hrw), Tried.nil, hSa.mono (fun l h => .inl (h.trans hia.symm))⟩, by first | omega | (simp; done) | (simp; omega)⟩, rfl, rfl⟩ | exact ⟨_, sp, _, _, (ts ++ [co.its ++ fewL o.ls]), _, _, ss1, sr1, sja1, sjb1, sda1, sdb1, su, sq, M2 ++ sw, ⟨⟨hoka, hCa, hRac, hRbc, (row_its hia hI.su), tried_add htl htr hrw hrq, hSa _ (fun l h => h.elim (fun h => .inl (h.trans hia.symm)) (fun h => .inr (List.mem_append_left _ h))) (.inr (List.mem_append_right _ (List.mem_singleton.2 rfl)))⟩, by first | omega | (simp; done) | (simp; omega)⟩, rfl, rfl⟩)
          ·
           refine at_seq ?_
           refine at_draw (n := 8) (0 :: 0 :: 3 :: 0 :: 8 :: 31 :: 63 :: 127 :: []) 101 (by kernel_rfl) (by kernel_rfl) rfl ?_
           refine lin_v (D' := 2) 1 (p_move (fun _=>rfl)) ?_
           refine lin_v (D' := 10) 3 (p_fieldAddr0 (off := 1) Tryz.underlying78 rfl rfl Tryz.sizeOf43 (fun _=>rfl)) ?_
           refine lin_r (D' := 26) 4 rfl rfl rfl (by repeat (first | exact Has.here _ | apply Has.there)) (p_load Tryz.isAgg43 (fun _=>rfl) (by rfl)) ?_
           refine lin_eff (l := [0]) (by kernel_rfl) (by kernel_rfl) ?_
           refine each_cons (m := 0) (D' := 27) (is := [4]) (bs := [true]) (T' := [(4, (_, _))]) rfl (fun _=>rfl) rfl rfl rfl (by kernel_rfl) rfl (w_buildSlice0 Tryz.underlying43 Tryz.sizeOf9) ?hk_17 (fun _ _ h => h.elim) ?hl_17
           case hk_17 =>
            rintro _ _ ⟨ge, rfl, rfl⟩
            refine ⟨keep_cons (by repeat (first | exact Has.here _ | apply Has.there)) (keep_nil), ?_⟩
            refine lin_eff (l := [2]) (by kernel_rfl) (by kernel_rfl) ?_
            refine each_cons (m := 3) (D' := 31) (is := [4]) (bs := [true]) (T' := [(4, (_, _))]) rfl (fun _=>rfl) rfl rfl rfl (by kernel_rfl) rfl (w_append_row (by_ := 16) Tryz.underlying43 (rfl : Tryz.prog.info? 9 = some Tryz.t9) rfl rfl rfl rfl (fun _=>rfl) (row_new _ ge [] 0 rfl (Nat.zero_le _)) (fun _=>rfl) (hI.su) (by repeat (first | exact One.here _ _ | apply One.there)) (by repeat (first | exact One.here _ _ | apply One.there)) (by simp [Value.oneCell', strV]) (by (simp only [List.length_map, List.length_nil]; omega)) (by (simp only [List.length_map, List.length_nil]; omega))) ?hk_18 (fun _ _ h => h.elim) ?hl_18
            case hk_18 =>
             rintro _ _ ⟨spp, hrpp, rfl⟩
             refine ⟨keep_cons (by repeat (first | exact Has.here _ | apply Has.there)) (keep_nil), ?_⟩
             rw [List.nil_append] at hrpp
             obtain ⟨gpp, cpp, rfl⟩ := hrpp.form
             refine lin_eff (l := [5]) (by kernel_rfl) (by kernel_rfl) ?_
             refine each_cons (m := 31) (D' := 63) (is := [4]) (bs := [false]) (T' := []) rfl (fun _=>rfl) rfl rfl rfl (by kernel_rfl) rfl (w_call (vs := [_]) (fun _=>rfl) Tryz.call37 (fun _=>rfl) rfl (few_mem hsl) (by repeat (first | exact Pull.nil _ | (apply Pull.cons; (focus (repeat (first | exact One.here _ _ | apply One.there))))))) ?hk_19 no_pan ?hl_19
             case hk_19 =>
              rintro _ _ ⟨_, ⟨sf, hf, rfl⟩, rfl⟩
              refine ⟨keep_nil, ?_⟩
              refine lin_eff (l := [6]) (by kernel_rfl) (by kernel_rfl) ?_
              refine each_cons (m := 63) (D' := 127) (is := []) (bs := []) (T' := []) rfl (fun _=>rfl) rfl rfl rfl (by kernel_rfl) rfl (w_append_row (by_ := 16) Tryz.underlying43 (rfl : Tryz.prog.info? 9 = some Tryz.t9) rfl rfl rfl rfl (fun _=>rfl) (hrpp) (fun _=>rfl) (hf) (by repeat (first | exact One.here _ _ | apply One.there)) (by repeat (first | exact One.here _ _ | apply One.there)) (by simp [Value.oneCell', strV]) (by (simp only [List.length_map]; omega)) (by (simp only [List.length_map]; omega))) ?hk_20 (fun _ _ h => h.elim) ?hl_20
              case hk_20 =>
               rintro _ _ ⟨sw, hrw, rfl⟩
               refine ⟨keep_nil, ?_⟩
               rw [← List.map_append] at hrw
               obtain ⟨gw, cw, rfl⟩ := hrw.form
               refine lin_v (D' := 255) 7 (p_assign (fun _=>rfl)) ?_
               refine lin_nil ?_
               refine nx_next ?_
               refine at_seq ?_
               refine at_region ?_
               refine op_v (p_move (fun _=>rfl)) ?_
               refine op_v (p_fieldAddr0 (off := 1) Tryz.underlying78 rfl rfl Tryz.sizeOf43 (fun _=>rfl)) ?_
               refine op_r (by repeat (first | exact Has.here _ | apply Has.there)) (p_load Tryz.isAgg43 (fun _=>rfl) (by rfl)) rfl rfl ?_
               refine ops_eff (fun _=>rfl) (fits_of rfl) rfl (w_call (vs := [_]) (fun _=>rfl) Tryz.call37 (fun _=>rfl) rfl (few_mem hsl) (by repeat (first | exact Pull.nil _ | (apply Pull.cons; (focus (repeat (first | exact One.here _ _ | apply One.there))))))) ?_ no_pan
               rintro _ _ ⟨_, ⟨sf2, hf2, rfl⟩, rfl⟩
               refine ops_eff (fun _=>rfl) (fits_of rfl) rfl (w_call (vs := [_, _]) (fun _=>rfl) Tryz.call38 (fun _=>rfl) rfl (core_app co sp a b n1 n2 (4 * i + 4) da db ss sr sja sjb sda sdb sf2 _ (fewL o.ls) Tg zg hI.ok (by omega) (by omega) (by omega) hI.mem hI.ra hI.rb (row_sub hf2) (by omega) hfb) (by repeat (first | exact Pull.nil _ | (apply Pull.cons; (focus (repeat (first | exact One.here _ _ | apply One.there))))))) ?_ no_pan
               rintro _ _ ⟨_, ⟨ss1, sr1, sja1, sjb1, sda1, sdb1, rfl, hCa, hRac, hRbc, rfl⟩, rfl⟩
               have hoka := (hI.ok.app (fewL o.ls)).more (show 4 * i + 4 + 1 ≤ 4 * (i + 1) + 4 by omega)
               rcases hI.sv.app (fewL o.ls) hfb with ⟨hea, hia, hSa⟩ | ⟨hea, hia, hSa⟩
               ·
                first | refine op_v (p_eql_nat (n := 0) (fun _=>rfl) (fun _=>rfl)) ?_ | refine op_v (p_eql (fun _=>rfl) (fun _=>rfl)) ?_
                refine ops_nil ?_
                refine nx_slots (env' := [(2, _), (7, _), (8, _), (10, _), (12, _), (14, _), (15, _), (16, _), (24, _), (86, _)]) [2, 7, 8, 10, 12, 14, 15, 16, 24, 86] rfl (fun _=>rfl) ?_
                refine nx_next ?_
                first | refine at_if (fun _=>rfl) (fun hez => ?_) (fun hez => ?_) | refine at_if_bool (fun _=>rfl) (fun hez => ?_) (fun hez => ?_)
                ·
                 refine at_seq ?_
                 refine at_region ?_
                 refine op_v (p_move (fun _=>rfl)) ?_
                 refine op_v (p_assign (fun _=>rfl)) ?_
                 refine ops_nil ?_
                 refine nx_next ?_
                 refine at_nil ?_
                 refine at_nil ?_
                 refine at_region ?_
                 refine op_v (p_assign (fun _=>rfl)) ?_
                 refine ops_nil ?_
                 refine nx_block_normal ?_
                 refine nx_slots (env' := [(12, _), (14, _), (15, _), (2, _), (7, _), (8, _), (10, _), (16, _)]) [12, 14, 15, 2, 7, 8, 10, 16] rfl (fun _=>rfl) ?_
                 refine nx_cutB (e' := [(12, _), (14, _), (15, _)]) (H' := _) (by first | exact ⟨co, sp, _, db, ts, _, _, ss, sr, sja, sjb, sda1, sdb, su, st, M2, ⟨⟨(hI.ok.cutA _).more (by omega), hI.mem, hRa1, hI.rb, hI.su, hI.tr, hI.sv.same (cut_keep _ _) ⟨rfl, rfl, rfl⟩⟩, by first | omega | (simp; done) | (simp; omega)⟩, rfl, rfl⟩ | exact ⟨co, sp, da, _, ts, _, _, ss, sr, sja, sjb, sda, sdb1, su, st, M2, ⟨⟨(hI.ok.cutB _).more (by omega), hI.mem, hI.ra, hRb1, hI.su, hI.tr, hI.sv.same ⟨rfl, rfl, rfl⟩ (cut_keep _ _)⟩, by first | omega | (simp; done) | (simp; omega)⟩, rfl, rfl⟩ | exact ⟨c2, sp2, q.2.2.1, q.2.2.2, [], _, _, ss2, sr2, sja2, sjb2, sda2, sdb2, sv3, [], [], ⟨⟨hok2.more (by omega), hC2, hRa2, hRb2, hv3, Tried.nil, hSv2.mono (fun l h => .inl h)⟩, by first | omega | (simp; done) | (simp; omega)⟩, rfl, rfl⟩ | exact ⟨_, sp, _, _, [], _, _, ss1, sr1, sja1, sjb1, sda1, sdb1, sf9, [], [], ⟨⟨hokc, hCc, hRac, hRbc, (row_its hic hf9), Tried.nil, hSc.mono (fun l h => .inl (h.trans hic.symm))⟩, by first | omega | (simp; done) | (simp; omega)⟩, rfl, rfl⟩ | exact ⟨_, sp, _, _, (ts ++ [fewL o.ls]), _, _, ss1, sr1, sja1, sjb1, sda1, sdb1, su, sq, M2 ++ sf8, ⟨⟨hokc, hCc, hRac, hRbc, (row_its hic hI.su), tried_add htl htr hf8 hrq, hSc _ (fun l h => h.elim (fun h => .inl (h.trans hic.symm)) (fun h => .inr (List.mem_append_left _ h))) (.inr (List.mem_append_right _ (List.mem_singleton.2 rfl)))⟩, by first | omega | (simp; done) | (simp; omega)⟩, rfl, rfl⟩ | exact ⟨_, sp, _, _, [], _, _, ss1, sr1, sja1, sjb1, sda1, sdb1, sw, [], [], ⟨⟨hoka, hCa, hRac, hRbc, (row_its hia hrw), Tried.nil, hSa.mono (fun l h => .inl (h.trans hia.symm))⟩, by first | omega | (simp; done) | (simp; omega)⟩, rfl, rfl⟩ | exact ⟨_, sp, _, _, (ts ++ [co.its ++ fewL o.ls]), _, _, ss1, sr1, sja1, sjb1, sda1, sdb1, su, sq, M2 ++ sw, ⟨⟨hoka, hCa, hRac, hRbc, (row_its hia hI.su), tried_add htl htr hrw hrq, hSa _ (fun l h => h.elim (fun h => .inl (h.trans hia.symm)) (fun h => .inr (List.mem_append_left _ h))) (.inr (List.mem_append_right _ (List.mem_singleton.2 rfl)))⟩, by first | omega | (simp; done) | (simp; omega)⟩, rfl, rfl⟩)
                ·
                 exact absurd hea hez
               ·
                first | refine op_v (p_eql_nat (n := 0) (fun _=>rfl) (fun _=>rfl)) ?_ | refine op_v (p_eql (fun _=>rfl) (fun _=>rfl)) ?_
                refine ops_nil ?_
                refine nx_slots (env' := [(2, _), (7, _), (8, _), (10, _), (12, _), (14, _), (15, _), (16, _), (24, _), (86, _)]) [2, 7, 8, 10, 12, 14, 15, 16, 24, 86] rfl (fun _=>rfl) ?_
                refine nx_next ?_
                first | refine at_if (fun _=>rfl) (fun hez => ?_) (fun hez => ?_) | refine at_if_bool (fun _=>rfl) (fun hez => ?_) (fun hez => ?_)
                ·
                 exact absurd hez hea
                ·
                 refine at_join (s1 := M2) (s2 := sw) (by repeat (first | exact One.here _ _ | apply One.there)) (by repeat (first | exact One.here _ _ | apply One.there)) ?_
                 refine at_region ?_
                 refine op_v (p_move (fun _=>rfl)) ?_
                 refine op_v (p_move (fun _=>rfl)) ?_
                 refine op_e (w_buildSlice (vs := [_]) (cs := [_]) Tryz.underlying80 Tryz.sizeOf43 Tryz.zeroValue43 (fun _=>rfl) rfl rfl rfl rfl rfl) (fun _=>rfl) rfl rfl ?_
                 rintro _ _ ⟨gb, rfl, rfl⟩
                 refine op_e (w_append (by_ := 24) (news := [_]) Tryz.underlying80 (rfl : Tryz.prog.info? 43 = some Tryz.t43) rfl rfl rfl rfl (fun _=>rfl) hrt (fun _=>rfl) (by repeat (first | exact One.here _ _ | apply One.there)) (by repeat (first | exact Has.here _ | apply Has.there)) (by rfl) rfl (by simp [Value.oneCell']) (by decide) (by omega) (by omega)) (fun _=>rfl) rfl rfl ?_
                 rintro _ _ ⟨sq, hrq, rfl⟩
                 obtain ⟨gq, cq, rfl⟩ := hrq.form
                 refine op_v (p_assign (fun _=>rfl)) ?_
                 refine ops_nil ?_
                 refine nx_block_normal ?_
                 refine nx_slots (env' := [(12, _), (14, _), (15, _), (2, _), (7, _), (8, _), (10, _), (16, _)]) [12, 14, 15, 2, 7, 8, 10, 16] rfl (fun _=>rfl) ?_
                 refine nx_cutB (e' := [(12, _), (14, _), (15, _)]) (H' := _) (by first | exact ⟨co, sp, _, db, ts, _, _, ss, sr, sja, sjb, sda1, sdb, su, st, M2, ⟨⟨(hI.ok.cutA _).more (by omega), hI.mem, hRa1, hI.rb, hI.su, hI.tr, hI.sv.same (cut_keep _ _) ⟨rfl, rfl, rfl⟩⟩, by first | omega | (simp; done) | (simp; omega)⟩, rfl, rfl⟩ | exact ⟨co, sp, da, _, ts, _, _, ss, sr, sja, sjb, sda, sdb1, su, st, M2, ⟨⟨(hI.ok.cutB _).more (by omega), hI.mem, hI.ra, hRb1, hI.su, hI.tr, hI.sv.same ⟨rfl, rfl, rfl⟩ (cut_keep _ _)⟩, by first | omega | (simp; done) | (simp; omega)⟩, rfl, rfl⟩ | exact ⟨c2, sp2, q.2.2.1, q.2.2.2, [], _, _, ss2, sr2, sja2, sjb2, sda2, sdb2, sv3, [], [], ⟨⟨hok2.more (by omega), hC2, hRa2, hRb2, hv3, Tried.nil, hSv2.mono (fun l h => .inl h)⟩, by first | omega | (simp; done) | (simp; omega)⟩, rfl, rfl⟩ | exact ⟨_, sp, _, _, [], _, _, ss1, sr1, sja1, sjb1, sda1, sdb1, sf9, [], [], ⟨⟨hokc, hCc, hRac, hRbc, (row_its hic hf9), Tried.nil, hSc.mono (fun l h => .inl (h.trans hic.symm))⟩, by first | omega | (simp; done) | (simp; omega)⟩, rfl, rfl⟩ | exact ⟨_, sp, _, _, (ts ++ [fewL o.ls]), _, _, ss1, sr1, sja1, sjb1, sda1, sdb1, su, sq, M2 ++ sf8, ⟨⟨hokc, hCc, hRac, hRbc, (row_its hic hI.su), tried_add htl htr hf8 hrq, hSc _ (fun l h => h.elim (fun h => .inl (h.trans hic.symm)) (fun h => .inr (List.mem_append_left _ h))) (.inr (List.mem_append_right _ (List.mem_singleton.2 rfl)))⟩, by first | omega | (simp; done) | (simp; omega)⟩, rfl, rfl⟩ | exact ⟨_, sp, _, _, [], _, _, ss1, sr1, sja1, sjb1, sda1, sdb1, sw, [], [], ⟨⟨hoka, hCa, hRac, hRbc, (row_its hia hrw), Tried.nil, hSa.mono (fun l h => .inl (h.trans hia.symm))⟩, by first | omega | (simp; done) | (simp; omega)⟩, rfl, rfl⟩ | exact ⟨_, sp, _, _, (ts ++ [co.its ++ fewL o.ls]), _, _, ss1, sr1, sja1, sjb1, sda1, sdb1, su, sq, M2 ++ sw, ⟨⟨hoka, hCa, hRac, hRbc, (row_its hia hI.su), tried_add htl htr hrw hrq, hSa _ (fun l h => h.elim (fun h => .inl (h.trans hia.symm)) (fun h => .inr (List.mem_append_left _ h))) (.inr (List.mem_append_right _ (List.mem_singleton.2 rfl)))⟩, by first | omega | (simp; done) | (simp; omega)⟩, rfl, rfl⟩)
              case hl_20 =>
               exact each_nil
             case hl_19 =>
              exact each_nil
            case hl_18 =>
             exact each_nil
           case hl_17 =>
            exact each_nil
     case hy_2 =>
      rintro _ _ ⟨co, sp, da, db, ts, vs, vt, ss, sr, sja, sjb, sda, sdb, su, st, M2, ⟨hI, htn⟩, rfl, rfl⟩
      clear hit hsl hil hzg
      have hits := hI.ok.items (by omega) (by omega)
      refine at_seq ?_
      refine at_region ?_
      refine op_v (p_move (fun _=>rfl)) ?_
      refine ops_eff (fun _=>rfl) (fits_of rfl) rfl (w_call (vs := [_]) (fun _=>rfl) Tryz.call26 (fun _=>rfl) rfl (core_items co sp a b ss sr sja sjb hits hI.mem) (by repeat (first | exact Pull.nil _ | (apply Pull.cons; (focus (repeat (first | exact One.here _ _ | apply One.there))))))) ?_ no_pan
      rintro _ _ ⟨_, ⟨sv9, hv9, rfl⟩, rfl⟩
      refine op_v (p_move (fun _=>rfl)) ?_
      refine op_e (w_callR (vs := [_, _]) (fun _=>rfl) Tryz.call25 (fun _=>rfl) rfl (same_rows hv9 hI.su hits) (by repeat (first | exact Pull.nil _ | (apply Pull.cons; (focus (repeat (first | exact One.here _ _ | apply One.there))))))) (fun _=>rfl) rfl rfl ?_
      rintro _ _ ⟨rfl, rfl⟩
      first | refine op_v (p_not_dec (fun _=>rfl)) ?_ | refine op_v (p_not (fun _=>rfl)) ?_
      refine ops_nil ?_
      refine nx_next ?_
      first | refine at_if (fun _=>rfl) (fun hzz => ?_) (fun hzz => ?_) | refine at_if_bool (fun _=>rfl) (fun hzz => ?_) (fun hzz => ?_)
      ·
       exact absurd rfl hzz
      ·
       refine at_skip ?_
       refine nx_block_normal ?_
       refine nx_next ?_
       refine at_region ?_
       refine op_v (p_move (fun _=>rfl)) ?_
       first | (refine op_v (p_add_nat (n := 1) (fun _=>rfl) (fun _=>rfl) ?_) ?_; (focus (omega))) | (refine op_v (p_add (fun _=>rfl) (fun _=>rfl) (IntWalk.i64_in _ ?_)) ?_; (focus (omega)))
       refine op_v (p_assign (fun _=>rfl)) ?_
       refine ops_nil ?_
       refine nx_slots (env' := [(12, _), (14, _), (15, _), (16, _), (2, _), (7, _), (8, _), (10, _)]) [12, 14, 15, 16, 2, 7, 8, 10] rfl (fun _=>rfl) ?_
       refine nx_againB (e' := [(12, _), (14, _), (15, _), (16, _)]) (m := _) (H' := _) (by exact ⟨i + 1, co, sp, da, db, ts, vs, vt, ss, sr, sja, sjb, sda, sdb, su, st, M2, rfl, ⟨⟨hI, htn⟩, by omega⟩, rfl, rfl⟩)
    ·
     refine at_exit ?_
     refine nx_thru (by intro h; cases h) ?_
     refine nx_thru (by intro h; cases h) ?_
     refine nx_block_exit ?_
     refine nx_next ?_
     refine at_seq ?_
     refine at_region ?_
     refine op_v (p_move (fun _=>rfl)) ?_
     refine op_v (p_assign (fun _=>rfl)) ?_
     refine ops_nil ?_
     refine nx_next ?_
     refine at_ret ?_
     refine nx_end1 (H' := _) rfl Tryz.results6 (fun _=>rfl) (by exact ⟨rfl, rfl⟩)
   ·
    refine op_skip (fun _=>rfl) rfl ?_
    refine op_skip (fun _=>rfl) rfl ?_
    refine op_v (p_pick_f (fun _=>rfl) (fun _=>rfl)) ?_
    refine ops_nil ?_
    refine nx_next ?_
    refine at_else (fun _=>rfl) ?_
    refine at_exit ?_
    refine nx_thru (by intro h; cases h) ?_
    refine nx_thru (by intro h; cases h) ?_
    refine nx_block_exit ?_
    refine nx_next ?_
    refine at_seq ?_
    refine at_region ?_
    refine op_v (p_move (fun _=>rfl)) ?_
    refine op_v (p_assign (fun _=>rfl)) ?_
    refine ops_nil ?_
    refine nx_next ?_
    refine at_ret ?_
    refine nx_end1 (H' := _) rfl Tryz.results6 (fun _=>rfl) (by exact ⟨rfl, rfl⟩)

end Go.Proofs.YthbadolcncojbaaGreatDoor
