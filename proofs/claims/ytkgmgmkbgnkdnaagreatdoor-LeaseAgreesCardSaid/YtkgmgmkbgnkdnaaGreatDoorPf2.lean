/- proof.Replay. -/
/- proof.Make, for queries that are not joins. -/
import Derived.Test.YtkgmgmkbgnkdnaaGreatDoorEz
import Derived.Test.YtkgmgmkbgnkdnaaGreatDoorPr5
import Derived.Test.YtkgmgmkbgnkdnaaGreatDoorLg11
import Derived.Test.YtkgmgmkbgnkdnaaGreatDoorTk1

namespace Go.Proofs.YtkgmgmkbgnkdnaaGreatDoor
open Go.Proofs.Tryz
open Go Go.RowKit Gw
set_option linter.unusedVariables false
set_option linter.unusedSimpArgs false
set_option maxRecDepth 100000
attribute [local irreducible] Gw.At Gw.Nx Gw.Ops
def runR (q : QM) (base : Int) : Nat → ResM × Int → List RecM → Option (ResM × Int)
  | _, st, [] => some st
  | i, st, x :: l => if (applyT q st.1 x.cs).2.2 = true ∧ base ≤ 9223372036854775806 - (i : Int) ∧ x.p = base + 1 + (i : Int) then runR q base (i + 1) ((applyT q st.1 x.cs).1, if (applyT q st.1 x.cs).2.1 then x.p else st.2) l else none
theorem runR_app (q : QM) (base : Int) : ∀ (a : List RecM) (i : Nat) (st : ResM × Int) (b : List RecM), runR q base i st (a ++ b) = (runR q base i st a).bind fun st' => runR q base (i + a.length) st' b
  | [], i, st, b => rfl
  | x :: a, i, st, b => by
    show (if (applyT q st.1 x.cs).2.2 = true ∧ base ≤ 9223372036854775806 - (i : Int) ∧ x.p = base + 1 + (i : Int) then runR q base (i + 1) _ (a ++ b) else none) = (if (applyT q st.1 x.cs).2.2 = true ∧ base ≤ 9223372036854775806 - (i : Int) ∧ x.p = base + 1 + (i : Int) then runR q base (i + 1) _ a else none).bind _
    split
    · rw [runR_app q base a (i + 1) _ b, List.length_cons, show i + (a.length + 1) = i + 1 + a.length by omega]
    · rfl
theorem runR_snoc {q : QM} {base : Int} {st sk : ResM × Int} {l : List RecM} {k : Nat} {x : RecM} (h : runR q base 0 st (l.take k) = some sk) (hx : l[k]? = some x) : runR q base 0 st (l.take (k + 1)) = if (applyT q sk.1 x.cs).2.2 = true ∧ base ≤ 9223372036854775806 - (k : Int) ∧ x.p = base + 1 + (k : Int) then some ((applyT q sk.1 x.cs).1, if (applyT q sk.1 x.cs).2.1 then x.p else sk.2) else none := by
  have hk := (List.getElem?_eq_some_iff.1 hx).1
  rw [take_snoc hx, runR_app, h, List.length_take, Nat.min_eq_left (by omega), Nat.zero_add]
  rfl
theorem runR_none {q : QM} {base : Int} {st : ResM × Int} {l : List RecM} {k : Nat} (h : runR q base 0 st (l.take k) = none) : runR q base 0 st l = none := by
  rw [← List.take_append_drop k l, runR_app, h]; rfl
def replayT (q : QM) (r : ResM) (base : Int) (l : List RecM) : ResM × Int × Bool := match runR q base 0 (r, base) l with
  | some st => (st.1, st.2, true)
  | none => (ResM.none, 0, false)
theorem applyT_some {q : QM} {r : ResM} {cs : List Chg} (h : (applyT q r cs).2.2 = true) : runC q r cs = some (applyT q r cs).1 ∧ (applyT q r cs).2.1 = cs.any (touchV q) := by
  unfold applyT at *
  split at h
  · rename_i h9; rw [h9]; exact ⟨rfl, rfl⟩
  · cases h
theorem runR_in {q : QM} {base : Int} : ∀ (l : List RecM) (i : Nat) (st st' : ResM × Int) (B : Int) (n : Nat), runR q base i st l = some st' → (∀ x ∈ l, x.cs.length ≤ 1000) → (-B ≤ st.1.val ∧ st.1.val ≤ B) → 0 ≤ B → st.1.rows.length ≤ n → (-(B + 2000000000000 * (l.length : Int)) ≤ st'.1.val ∧ st'.1.val ≤ B + 2000000000000 * (l.length : Int)) ∧ st'.1.rows.length ≤ n + 1000 * l.length
  | [], i, st, st', B, n, h, hl, h1, h2, h3 => by
    unfold runR at h
    injection h with h
    subst h
    simp only [List.length_nil]
    exact ⟨⟨by omega, by omega⟩, h3⟩
  | x :: l, i, st, st', B, n, h, hl, h1, h2, h3 => by
    unfold runR at h
    split at h
    · rename_i h9
      have h4 := runC_in _ _ _ B n (applyT_some h9.1).1 h1 h2 h3
      have h5 := hl x (by simp)
      have h6 := runR_in l (i + 1) _ st' (B + 2000000000000) (n + 1000) h (fun y hy => hl y (by simp [hy])) ⟨by simp only; omega, by simp only; omega⟩ (by omega) (by simp only; omega)
      rw [List.length_cons]
      obtain ⟨⟨h7, h8⟩, h10⟩ := h6
      refine ⟨⟨?_, ?_⟩, by omega⟩ <;> (push_cast; omega)
    · cases h

set_option maxHeartbeats 1000000 in
theorem replay_spec (q : QM) (hq : ValidQ q) (h7 : q.kd ≠ 7) (base : Int) (hb : -9223372036854775808 ≤ base ∧ base ≤ 9223372036854775807) {l : List RecM} {lv : Value} {ML : List Chunk} (hL : RecsIn ML lv l) (hll : l.length ≤ 1000) (hcs : ∀ x ∈ l, x.cs.length ≤ 1000) {r : ResM} {rv : Value} {A : List Chunk} (hr : RowsU A rv r.rows) (hn : r.rows.length ≤ 1000000) (hv : -1000000000000000000 ≤ r.val ∧ r.val ≤ 1000000000000000000) : Does Tryz.prog 10 #[.agg #[.int .i64 q.kd, .int .i64 q.tb, .int .i64 q.cl, .int .i64 q.lo, .int .i64 q.hi, .int .i64 q.bq, .int .i64 q.ot], .agg #[rv, .int .i64 r.val, .bool r.fnd], .int .i64 base, lv] [A, ML] (fun w H' => ∃ rv' s', w = .tuple #[.agg #[rv', .int .i64 (replayT q r base l).1.val, .bool (replayT q r base l).1.fnd], .int .i64 (replayT q r base l).2.1, .bool (replayT q r base l).2.2] ∧ RowS 5 67 rv' (replayT q r base l).1.rows.length (rowCells (replayT q r base l).1.rows) s' ∧ H' = [s', A, ML]) := by
 have hml : maxLen = 9223372036854775807 := rfl
 obtain ⟨pv, cv, rfl, _⟩ := id hr
 obtain ⟨pl, capl, rfl, ⟨hlm, hlc⟩, hgl⟩ := id hL
 refine spec_enter func10 rfl ntmps10 rfl ?_
 intro u R
 refine Zb [0, 1, 2, 3] ?_
 refine Zq <| Zg <| Ze (w_box Y (cs := #[.int .i64 q.kd, .int .i64 q.tb, .int .i64 q.cl, .int .i64 q.lo, .int .i64 q.hi, .int .i64 q.bq, .int .i64 q.ot]) (by simp [Value.cells])) ?_
 rintro _ _ ⟨bq, rfl, rfl⟩
 refine Ze (w_box Y (cs := #[.slice pv r.rows.length cv, .int .i64 r.val, .bool r.fnd]) (by simp [Value.cells])) ?_
 rintro _ _ ⟨br, rfl, rfl⟩
 refine Ze (w_alloc zeroValue40 (cs := #[_, _, _]) rfl) ?_
 rintro _ _ ⟨bo, rfl, rfl⟩
 refine Za Y <| Za Y <| Z0 <| Zx <| Zq <| Zg <| Zm Y <| Za Y <| Z0 <| Zx <| Zq <| Zg <| Zh 0 underlying40 rfl rfl sizeOf38 Y <| Zl isAgg38 Y ?_
 refine Zc [_] Y call35 Y rfl (rclone_spec hr (by omega)) ?_
 rintro _ _ ⟨_, ⟨s1, h1, rfl⟩, rfl⟩
 obtain ⟨g1, c1, rfl⟩ := h1.form
 refine Zh 0 underlying40 rfl rfl sizeOf38 Y <| Xe (Zs sizeOf38 Y Y rfl (hi := by first | omega | decide | (simp; done))) ?_
 refine Z0 <| Zx <| Zq <| Zq <| Zg <| Zm Y <| Zv (p_len_slice underlying25 Y) <| Zm Y <| Z0 <| Zn [2, 4, 5, 8, 11, 22, 23, 24] ?_
 refine Zx <| at_block <| Zb [11, 24, 2, 4, 5, 8, 22, 23] ?_
 refine at_loopB (e0 := [(11, _), (24, _)]) (H0 := _) (n := _) (fun m e H => ∃ (k : Nat) (rk : ResM × Int) (gk : Option Addr) (ck : Nat) (sk : List Chunk), m = l.length - k ∧ (k ≤ l.length ∧ runR q base 0 (r, base) (l.take k) = some rk ∧ RowS 5 67 (.slice gk rk.1.rows.length ck) rk.1.rows.length (rowCells rk.1.rows) sk) ∧ e = [(11, .int .i64 rk.2), (24, .int .i64 (k : Int))] ∧ H = [[(br, .cells #[.slice gk rk.1.rows.length ck, .int .i64 rk.1.val, .bool rk.1.fnd] 40 (0, 0))], sk]) (by exact ⟨0, (r, base), g1, c1, s1, rfl, ⟨Nat.zero_le _, by rw [List.take_zero]; rfl, h1⟩, rfl, rfl⟩) Wp ?_
 rintro _ _ _ ⟨k, rk, gk, ck, sk, rfl, ⟨hk, hrk, hsk⟩, rfl, rfl⟩
 obtain ⟨hkv, hkn⟩ := runR_in (l.take k) 0 (r, base) rk 1000000000000000000 1000000 hrk (fun x hx => hcs x (List.mem_of_mem_take hx)) hv (by omega) hn
 have hkl : (l.take k).length = k := by rw [List.length_take]; omega
 rw [hkl] at hkv hkn
 have hUk := rowsU_row hsk (by omega)
 refine Zq <| Zg <| Zv (p_lss_nat Y Y) <| Z0 <| Zx <| Zq ?_
 refine at_if Y (fun hlt => ?_) (fun hlt => ?_)
 ·
  obtain ⟨x, hx⟩ : ∃ x, l[k]? = some x := ⟨_, List.getElem?_eq_getElem hlt⟩
  have hxc := hcs x (List.mem_of_getElem? hx)
  obtain ⟨hOx, g2, off2, cur2, T2, zz2, rfl, hm2, hsz2, hex2⟩ := hgl k x hx
  refine at_skip <| Zx <| Zq <| at_block <| Zq <| Zg <| Zm Y ?_
  (refine op_v (p_indexAddr_nat underlying25 sizeOf51 Y Y ?_) ?_; (focus (first | omega | decide | (simp; done))))
  refine op_rm (cs := [(g2, .cells cur2 T2 zz2)]) (by simp [hm2]) (p_load_agg (cs := #[.int .i64 x.p, .slice x.q x.cs.length x.cap]) isAgg51 sizeOf51 Y (by omega) hex2) rfl rfl ?_
  refine Ze (w_alloc zeroValue51 (cs := #[_, _]) rfl) ?_
  rintro _ _ ⟨bx, rfl, rfl⟩
  refine Za Y <| Xe (w_store_agg sizeOf51 Y Y (by (simp [Value.oneCell']; done)) Wu (by exact (rfl : _ = (#[.int .i64 x.p, .slice x.q x.cs.length x.cap] : Array Value))) (by first | rfl | (simp; done)) Wb (by exact free_zero _)) ?_
  refine Z0 <| Zx <| Zq <| Zg <| Zo Wh (p_load_agg (cs := #[_, _, _, _, _, _, _]) isAgg30 sizeOf30 Y Wb (by rfl)) ?_
  refine Zo Wh (p_load_agg (cs := #[_, _, _]) isAgg40 sizeOf40 Y Wb (by rfl)) ?_
  refine Zo Wh (p_load_agg (cs := #[_, _]) isAgg51 sizeOf51 Y Wb (by rfl)) ?_
  refine Zc [_, _, _] Y call36 Y rfl (apply_spec q hq h7 x.p x.q x.cap x.cs hOx hxc hUk (by omega) (by omega)) ?_
  rintro _ _ ⟨_, ⟨rv3, s3, rfl, h3, rfl⟩, rfl⟩
  obtain ⟨g3, c3, rfl⟩ := h3.form
  refine Zm Y <| Zd Y rfl <| Zd Y rfl <| Zd Y rfl <| Ze (w_alloc zeroValue40 (cs := #[_, _, _]) rfl) ?_
  rintro _ _ ⟨bn, rfl, rfl⟩
  refine Xe (w_store_agg sizeOf40 Y Y (by (simp [Value.oneCell']; done)) Wu (by exact (rfl : _ = (#[.slice g3 (applyT q rk.1 x.cs).1.rows.length c3, .int .i64 (applyT q rk.1 x.cs).1.val, .bool (applyT q rk.1 x.cs).1.fnd] : Array Value))) (by first | rfl | (simp; done)) Wb (by exact free_zero _)) ?_
  refine Za Y <| Za Y <| Z0 <| Zn [2, 4, 5, 8, 11, 12, 13, 14, 15, 16, 22, 23, 24] ?_
  refine Zx <| Zq <| Zq <| Zg <| Zm Y <| Zv (p_not Y) <| Zm Y ?_
  refine ops_split_bool (t := 39) Y rfl (fun h1g => ?_) (fun h1g => ?_)
  ·
   have h1k : (applyT q rk.1 x.cs).2.2 = false := by simpa using h1g
   refine op_skip Y rfl <| op_skip Y rfl <| op_skip Y rfl <| op_skip Y rfl <| Zv (p_pick_t Y Y) <| Zm Y <| op_skip Y rfl <| op_skip Y rfl <| op_skip Y rfl <| op_skip Y rfl <| op_skip Y rfl <| op_skip Y rfl <| op_skip Y rfl <| Zv (p_pick_t Y Y) <| Z0 <| Zn [2, 4, 5, 8, 11, 13, 14, 15, 22, 23, 24, 53] ?_
   refine Zx <| at_then Y <| Zq <| at_nil ?_
   have e8 : replayT q r base l = (ResM.none, 0, false) := by unfold replayT; rw [runR_none (k := k + 1) (by rw [runR_snoc hrk hx, if_neg (by (rw [h1k]; rintro ⟨h, _⟩; cases h; done))])]
   refine Zg <| Zv (p_build (vs := []) (cs := #[_, _, _]) Y (run_build_struct (pl := #[(0, 1), (1, 1), (2, 1)]) zeroValue40 underlying40 (fun _ => by kernel_rfl) rfl)) ?_
   refine Xe (w_store_agg sizeOf40 Y Y (by (simp [Value.oneCell']; done)) Wu (by rfl) (by first | rfl | (simp; done)) Wb (by exact free_zero _)) ?_
   refine Za Y <| Za Y <| Z0 <| Zx <| at_ret <| Zt <| nx_block_ret <| Zt <| Zt <| nx_block_ret <| Zt ?_
   refine nx_endctt rfl results10 Y Wh (loadVar_agg isAgg40 sizeOf40 Wn (rfl)) Y Y (by exact ⟨.slice none 0 0, [], by rw [e8]; rfl, by rw [e8]; exact rowS_nil 5 _, rfl⟩)
  have h1k : (applyT q rk.1 x.cs).2.2 = true := by simpa using h1g
  refine Zf Y Y <| Zf Y Y ?_
  (refine op_wg Y (p_sub_nat (m := 9223372036854775806) Y Y ?_ ?_) rfl rfl ?_; (focus (omega)); (focus (omega)))
  refine Yg (p_gtr Y Y) <| Zv (p_pick_f Y Y) <| Zm Y ?_
  refine ops_split (t := 45) Y rfl (fun h2g => ?_) (fun h2g => ?_)
  ·
   refine op_skip Y rfl <| op_skip Y rfl <| op_skip Y rfl <| op_skip Y rfl <| op_skip Y rfl <| op_skip Y rfl <| op_skip Y rfl <| Zv (p_pick_t Y Y) <| Z0 <| Zn [2, 4, 5, 8, 11, 13, 14, 15, 22, 23, 24, 53] ?_
   refine Zx <| at_then Y <| Zq <| at_nil ?_
   have e8 : replayT q r base l = (ResM.none, 0, false) := by unfold replayT; rw [runR_none (k := k + 1) (by rw [runR_snoc hrk hx, if_neg (by (rintro ⟨_, h8, h9⟩; omega))])]
   refine Zg <| Zv (p_build (vs := []) (cs := #[_, _, _]) Y (run_build_struct (pl := #[(0, 1), (1, 1), (2, 1)]) zeroValue40 underlying40 (fun _ => by kernel_rfl) rfl)) ?_
   refine Xe (w_store_agg sizeOf40 Y Y (by (simp [Value.oneCell']; done)) Wu (by rfl) (by first | rfl | (simp; done)) Wb (by exact free_zero _)) ?_
   refine Za Y <| Za Y <| Z0 <| Zx <| at_ret <| Zt <| nx_block_ret <| Zt <| Zt <| nx_block_ret <| Zt ?_
   refine nx_endctt rfl results10 Y Wh (loadVar_agg isAgg40 sizeOf40 Wn (rfl)) Y Y (by exact ⟨.slice none 0 0, [], by rw [e8]; rfl, by rw [e8]; exact rowS_nil 5 _, rfl⟩)
  refine Yf 0 underlying51 rfl rfl sizeOf3 Y <| Yl isAgg3 Y ?_
  refine Zf Y Y ?_
  (refine op_wg Y (p_add Y Y (IntWalk.i64_in _ ?_)) rfl rfl ?_; (focus (omega)))
  refine Zf Y Y ?_
  (refine op_wg Y (p_add Y Y (IntWalk.i64_in _ ?_)) rfl rfl ?_; (focus (omega)))
  refine Yg (p_neq Y Y) <| Zv (p_pick_f Y Y) <| Z0 <| Zn [2, 4, 5, 8, 11, 13, 14, 15, 22, 23, 24, 53] ?_
  refine Zx ?_
  refine at_if Y (fun h3g => ?_) (fun h3g => ?_)
  ·
   refine Zq <| at_nil ?_
   have e8 : replayT q r base l = (ResM.none, 0, false) := by unfold replayT; rw [runR_none (k := k + 1) (by rw [runR_snoc hrk hx, if_neg (by (rintro ⟨_, h8, h9⟩; omega))])]
   refine Zg <| Zv (p_build (vs := []) (cs := #[_, _, _]) Y (run_build_struct (pl := #[(0, 1), (1, 1), (2, 1)]) zeroValue40 underlying40 (fun _ => by kernel_rfl) rfl)) ?_
   refine Xe (w_store_agg sizeOf40 Y Y (by (simp [Value.oneCell']; done)) Wu (by rfl) (by first | rfl | (simp; done)) Wb (by exact free_zero _)) ?_
   refine Za Y <| Za Y <| Z0 <| Zx <| at_ret <| Zt <| nx_block_ret <| Zt <| Zt <| nx_block_ret <| Zt ?_
   refine nx_endctt rfl results10 Y Wh (loadVar_agg isAgg40 sizeOf40 Wn (rfl)) Y Y (by exact ⟨.slice none 0 0, [], by rw [e8]; rfl, by rw [e8]; exact rowS_nil 5 _, rfl⟩)
  refine at_skip <| Zx <| Zq <| Zg <| Zo Wh (p_load_agg (cs := #[_, _, _]) isAgg40 sizeOf40 Y Wb (by rfl)) ?_
  refine Xe (w_store_agg sizeOf40 Y Y (by (simp [Value.oneCell']; done)) Wu (by rfl) (by first | rfl | (simp; done)) Wb (by exact free_zero _)) ?_
  refine Z0 <| Zx <| Zq <| Zg <| Zm Y <| Z0 <| Zx ?_
  refine at_if_bool Y (fun ht => ?_) (fun ht => ?_)
  ·
   refine Zg <| Zh 0 underlying51 rfl rfl sizeOf3 Y <| Zl isAgg3 Y ?_
   refine Za Y <| Z0 <| nx_block_normal <| Zx <| Zg <| Ya (n := 1) Y Y <| Zm Y <| Z0 <| Zn [11, 24, 2, 4, 5, 8, 22, 23] ?_
   refine nx_againB (e' := [(11, _), (24, _)]) (m := _) (H' := _) (by exact ⟨k + 1, ((applyT q rk.1 x.cs).1, x.p), g3, c3, s3, rfl, ⟨by omega, by rw [runR_snoc hrk hx, if_pos ⟨h1k, by omega, by omega⟩, ht]; rfl, h3⟩, rfl, rfl⟩)
  refine at_skip <| nx_block_normal <| Zx <| Zg <| Ya (n := 1) Y Y <| Zm Y <| Z0 <| Zn [11, 24, 2, 4, 5, 8, 22, 23] ?_
  refine nx_againB (e' := [(11, _), (24, _)]) (m := _) (H' := _) (by exact ⟨k + 1, ((applyT q rk.1 x.cs).1, rk.2), g3, c3, s3, rfl, ⟨by omega, by rw [runR_snoc hrk hx, if_pos ⟨h1k, by omega, by omega⟩, ht]; rfl, h3⟩, rfl, rfl⟩)
 have ek : k = l.length := by omega
 subst ek
 rw [List.take_length] at hrk
 have e8 : replayT q r base l = (rk.1, rk.2, true) := by unfold replayT; rw [hrk]
 refine at_exit <| Zt <| Zt <| nx_block_exit <| Zx <| Zq <| Zg <| Zo Wh (p_load_agg (cs := #[_, _, _]) isAgg40 sizeOf40 Y Wb (by rfl)) ?_
 refine Zm Y <| Xe (w_store_agg sizeOf40 Y Y (by (simp [Value.oneCell']; done)) Wu (by rfl) (by first | rfl | (simp; done)) Wb (by exact free_zero _)) ?_
 refine Za Y <| Za Y <| Z0 <| Zx <| at_ret ?_
 refine nx_endctt rfl results10 Y Wh (loadVar_agg isAgg40 sizeOf40 Wn (rfl)) Y Y (by exact ⟨.slice gk _ ck, sk, by rw [e8]; rfl, by rw [e8]; exact hsk, rfl⟩)

end Go.Proofs.YtkgmgmkbgnkdnaaGreatDoor


namespace Go.Proofs.YtkgmgmkbgnkdnaaGreatDoor
open Go.Proofs.Tryz
open Go Go.RowKit Gw
set_option linter.unusedVariables false
set_option linter.unusedSimpArgs false
set_option maxRecDepth 100000
attribute [local irreducible] Gw.At Gw.Nx Gw.Ops
theorem prove_q (v : Value) (p : Int) (rs : List RowM) (s : List Chunk) (hv : StIs v p rs s) (hs : SortedR rs) (hn : rs.length ≤ 2000) (hok : ∀ r ∈ rs, r.ok) (q : QM) (hq : ValidQ q) (Tg : TypeId) (zg : Nat × Nat) :
    Does Tryz.prog 26 #[v, .int .i64 q.tb, .int .i64 q.cl, .int .i64 q.lo, .int .i64 q.hi] [[(1, .cells (kTab.map u32v).toArray Tg zg)], s] (fun r H' => ∃ qr cr qp cp qt ct mem, r = .tuple #[.agg #[.int .i64 (proveT rs q.tb.toNat q.cl.toNat q.lo q.hi).tb, .int .i64 (proveT rs q.tb.toNat q.cl.toNat q.lo q.hi).cl, .int .i64 (proveT rs q.tb.toNat q.cl.toNat q.lo q.hi).lo, .int .i64 (proveT rs q.tb.toNat q.cl.toNat q.lo q.hi).hi, .int .i64 (proveT rs q.tb.toNat q.cl.toNat q.lo q.hi).ct, .int .i64 (proveT rs q.tb.toNat q.cl.toNat q.lo q.hi).fi, .slice qr (proveT rs q.tb.toNat q.cl.toNat q.lo q.hi).rows.length cr, .slice qp (proveT rs q.tb.toNat q.cl.toNat q.lo q.hi).paths.length cp, .slice qt (proveT rs q.tb.toNat q.cl.toNat q.lo q.hi).roots.length ct], .int .i64 0] ∧ RPIn mem (.agg #[.int .i64 (proveT rs q.tb.toNat q.cl.toNat q.lo q.hi).tb, .int .i64 (proveT rs q.tb.toNat q.cl.toNat q.lo q.hi).cl, .int .i64 (proveT rs q.tb.toNat q.cl.toNat q.lo q.hi).lo, .int .i64 (proveT rs q.tb.toNat q.cl.toNat q.lo q.hi).hi, .int .i64 (proveT rs q.tb.toNat q.cl.toNat q.lo q.hi).ct, .int .i64 (proveT rs q.tb.toNat q.cl.toNat q.lo q.hi).fi, .slice qr (proveT rs q.tb.toNat q.cl.toNat q.lo q.hi).rows.length cr, .slice qp (proveT rs q.tb.toNat q.cl.toNat q.lo q.hi).paths.length cp, .slice qt (proveT rs q.tb.toNat q.cl.toNat q.lo q.hi).roots.length ct]) (proveT rs q.tb.toNat q.cl.toNat q.lo q.hi) ∧ H' = [mem, [(1, .cells (kTab.map u32v).toArray Tg zg)], s]) := by
  obtain ⟨h1, h2, h3, _⟩ := id hq
  have h := prove_spec v p rs s hv hs hn hok q.tb.toNat q.cl.toNat (by omega) (by omega) q.lo q.hi h3.2.1 Tg zg
  rw [show ((q.tb.toNat : Nat) : Int) = q.tb by omega, show ((q.cl.toNat : Nat) : Int) = q.cl by omega] at h
  refine h.mono ?_
  rintro r H' ⟨v', mem, rfl, hR, rfl⟩
  obtain ⟨vr, vp, vt, rfl, ⟨qr, cr, rfl, h4⟩, ⟨qp, cp, rfl, h5⟩, ⟨qt, ct, rfl, h6⟩⟩ := hR
  exact ⟨qr, cr, qp, cp, qt, ct, mem, rfl, ⟨_, _, _, rfl, ⟨qr, cr, rfl, h4⟩, ⟨qp, cp, rfl, h5⟩, ⟨qt, ct, rfl, h6⟩⟩, rfl⟩

theorem scan_q (q : QM) (hq : ValidQ q) : DoesR Tryz.prog 61 #[.agg #[.int .i64 q.kd, .int .i64 q.tb, .int .i64 q.cl, .int .i64 q.lo, .int .i64 q.hi, .int .i64 q.bq, .int .i64 q.ot]] [] (.tuple #[.int .i64 q.tb, .int .i64 q.cl, .int .i64 q.lo, .int .i64 q.hi]) := by
 refine spec_enter func61 rfl ntmps61 rfl ?_
 intro u R
 refine Zb [0] ?_
 refine Zq <| Zg <| Ze (w_box Y (cs := #[.int .i64 q.kd, .int .i64 q.tb, .int .i64 q.cl, .int .i64 q.lo, .int .i64 q.hi, .int .i64 q.bq, .int .i64 q.ot]) (by simp [Value.cells])) ?_
 rintro _ _ ⟨bq, rfl, rfl⟩
 refine Za Y <| Za Y <| Za Y <| Za Y <| Z0 <| Zx <| Zq <| Zq <| Zg <| Zo Wh (p_load_agg (cs := #[_, _, _, _, _, _, _]) isAgg30 sizeOf30 Y Wb (by rfl)) ?_
 refine Xr [_] Y call24 Y rfl (q_valid q) ?_
 refine Zv (p_not_dec Y) <| Z0 <| Zx ?_
 refine at_if_bool Y (fun hb1 => ?_) (fun hb1 => ?_)
 ·
  exfalso; simp [hq] at hb1
 refine at_skip <| Zx <| Zq <| at_draw (n := 12) (0 :: 1 :: 0 :: 4 :: 0 :: 16 :: 0 :: 64 :: 3 :: 271 :: 831 :: 2047 :: []) 0 (by kernel_rfl) (by kernel_rfl) rfl ?_
 refine Zi 1 0 rfl (p_fieldAddr0 (off := 1) underlying30 rfl rfl sizeOf3 Y) <| Zj 3 1 rfl isAgg3 Y ?_
 refine Zi 7 2 rfl (p_fieldAddr0 (off := 2) underlying30 rfl rfl sizeOf3 Y) <| Zj 15 3 rfl isAgg3 Y ?_
 refine Zi 31 4 rfl (p_fieldAddr0 (off := 3) underlying30 rfl rfl sizeOf3 Y) <| Zj 63 5 rfl isAgg3 Y ?_
 refine Zi 127 6 rfl (p_fieldAddr0 (off := 4) underlying30 rfl rfl sizeOf3 Y) <| Zj 255 7 rfl isAgg3 Y ?_
 refine Zi 511 8 rfl (p_assign Y) <| Zi 1023 9 rfl (p_assign Y) <| Zi 2047 10 rfl (p_assign Y) <| Zi 4095 11 rfl (p_assign Y) <| lin_nil ?_
 refine Zn [2, 3, 4, 5] ?_
 refine Zx <| at_ret ?_
 refine nx_end4 rfl results61 Y Y Y Y (by exact ⟨rfl, rfl⟩)

theorem of_q (q : QM) (hq : ValidQ q) : DoesR Tryz.prog 27 #[.agg #[.int .i64 q.kd, .int .i64 q.tb, .int .i64 q.cl, .int .i64 q.lo, .int .i64 q.hi, .int .i64 q.bq, .int .i64 q.ot]] [] (.agg #[.int .i64 q.tb, .int .i64 q.cl, .int .i64 q.lo, .int .i64 q.hi]) := by
 refine spec_enter func27 rfl ntmps27 rfl ?_
 intro u R
 refine Zb [0] ?_
 refine Zq <| Zg <| Ze (w_box Y (cs := #[.int .i64 q.kd, .int .i64 q.tb, .int .i64 q.cl, .int .i64 q.lo, .int .i64 q.hi, .int .i64 q.bq, .int .i64 q.ot]) (by simp [Value.cells])) ?_
 rintro _ _ ⟨bq, rfl, rfl⟩
 refine Ze (w_alloc zeroValue76 (cs := #[_, _, _, _]) rfl) ?_
 rintro _ _ ⟨bo, rfl, rfl⟩
 refine Z0 <| Zx <| Zq <| Zg <| Zo Wh (p_load_agg (cs := #[_, _, _, _, _, _, _]) isAgg30 sizeOf30 Y Wb (by rfl)) ?_
 refine Xr [_] Y call61 Y rfl (scan_q q hq) ?_
 refine Zm Y <| Zd Y rfl <| Zd Y rfl <| Zd Y rfl <| Zd Y rfl <| Zh 0 underlying76 rfl rfl sizeOf3 Y <| Xe (Zs sizeOf3 Y Y rfl (hi := by first | omega | decide | (simp; done))) ?_
 refine Zh 1 underlying76 rfl rfl sizeOf3 Y <| Xe (Zs sizeOf3 Y Y rfl (hi := by first | omega | decide | (simp; done))) ?_
 refine Zh 2 underlying76 rfl rfl sizeOf3 Y <| Xe (Zs sizeOf3 Y Y rfl (hi := by first | omega | decide | (simp; done))) ?_
 refine Zh 3 underlying76 rfl rfl sizeOf3 Y <| Xe (Zs sizeOf3 Y Y rfl (hi := by first | omega | decide | (simp; done))) ?_
 refine Z0 <| Zn [2] ?_
 refine Zx <| Zq <| Zg <| Zo Wh (p_load_agg (cs := #[_, _, _, _]) isAgg76 sizeOf76 Y Wb (by exact ext_whole rfl)) ?_
 refine Xe (w_store_agg sizeOf76 Y Y (by (simp [Value.oneCell']; done)) Wu (by exact over_arr rfl) (by first | rfl | (simp; done)) Wb (by exact free_zero _)) ?_
 refine Z0 <| Zx <| at_ret ?_
 refine nx_endc1 rfl results27 Y Wh (loadVar_agg isAgg76 sizeOf76 Wn (ext_whole rfl)) (by exact ⟨rfl, rfl⟩)

theorem put_q (v : Value) (p : Int) (rs : List RowM) (s : List Chunk) (hv : StIs v p rs s) (hs : SortedR rs) (hn : rs.length ≤ 2000) (hok : ∀ r ∈ rs, r.ok) (q : QM) (hq : ValidQ q) (Tg : TypeId) (zg : Nat × Nat) (bs bo : Nat) : Does Tryz.prog 25 #[.agg #[.int .i64 q.tb, .int .i64 q.cl, .int .i64 q.lo, .int .i64 q.hi], .pointer (some ⟨bs, 0, none⟩), .pointer (some ⟨bo, 0, none⟩)] [[(1, .cells (kTab.map u32v).toArray Tg zg)], s, [(bs, .cells #[v] 31 (0, 0))], [(bo, .cells #[.slice none 0 0] 35 (0, 0))]] (fun r H' => r = undef ∧ ∃ qr cr qp cp qt ct mem g c so, RPIn mem (.agg #[.int .i64 (proveT rs q.tb.toNat q.cl.toNat q.lo q.hi).tb, .int .i64 (proveT rs q.tb.toNat q.cl.toNat q.lo q.hi).cl, .int .i64 (proveT rs q.tb.toNat q.cl.toNat q.lo q.hi).lo, .int .i64 (proveT rs q.tb.toNat q.cl.toNat q.lo q.hi).hi, .int .i64 (proveT rs q.tb.toNat q.cl.toNat q.lo q.hi).ct, .int .i64 (proveT rs q.tb.toNat q.cl.toNat q.lo q.hi).fi, .slice qr (proveT rs q.tb.toNat q.cl.toNat q.lo q.hi).rows.length cr, .slice qp (proveT rs q.tb.toNat q.cl.toNat q.lo q.hi).paths.length cp, .slice qt (proveT rs q.tb.toNat q.cl.toNat q.lo q.hi).roots.length ct]) (proveT rs q.tb.toNat q.cl.toNat q.lo q.hi) ∧ RowS 9 79 (.slice g 1 c) 1 [.int .i64 (proveT rs q.tb.toNat q.cl.toNat q.lo q.hi).tb, .int .i64 (proveT rs q.tb.toNat q.cl.toNat q.lo q.hi).cl, .int .i64 (proveT rs q.tb.toNat q.cl.toNat q.lo q.hi).lo, .int .i64 (proveT rs q.tb.toNat q.cl.toNat q.lo q.hi).hi, .int .i64 (proveT rs q.tb.toNat q.cl.toNat q.lo q.hi).ct, .int .i64 (proveT rs q.tb.toNat q.cl.toNat q.lo q.hi).fi, .slice qr (proveT rs q.tb.toNat q.cl.toNat q.lo q.hi).rows.length cr, .slice qp (proveT rs q.tb.toNat q.cl.toNat q.lo q.hi).paths.length cp, .slice qt (proveT rs q.tb.toNat q.cl.toNat q.lo q.hi).roots.length ct] so ∧ H' = [mem, so, [(1, .cells (kTab.map u32v).toArray Tg zg)], s, [(bs, .cells #[v] 31 (0, 0))], [(bo, .cells #[.slice g 1 c] 35 (0, 0))]]) := by
 have hml : maxLen = 9223372036854775807 := rfl
 obtain ⟨sp, mb, es, ck, lm, rfl, hst9⟩ := id hv
 refine spec_enter func25 rfl ntmps25 rfl ?_
 intro u R
 refine Zb [0, 1, 2] ?_
 refine Zq <| Zg <| Ze (w_box Y (cs := #[_, _, _, _]) rfl) ?_
 rintro _ _ ⟨bx, rfl, rfl⟩
 refine Z0 <| Zx <| Zq <| Zg <| Zl isAgg31 Y ?_
 refine Zh 0 underlying76 rfl rfl sizeOf3 Y <| Zl isAgg3 Y ?_
 refine Zh 1 underlying76 rfl rfl sizeOf3 Y <| Zl isAgg3 Y ?_
 refine Zh 2 underlying76 rfl rfl sizeOf3 Y <| Zl isAgg3 Y ?_
 refine Zh 3 underlying76 rfl rfl sizeOf3 Y <| Zl isAgg3 Y ?_
 refine Zc [_, _, _, _, _] Y call26 Y rfl (prove_q _ p rs s hv hs hn hok q hq Tg zg) ?_
 rintro _ _ ⟨_, ⟨qr, cr, qp, cp, qt, ct, mem, rfl, hR, rfl⟩, rfl⟩
 refine Zm Y <| Zd Y rfl <| Zd Y rfl <| Ze (w_alloc zeroValue79 (cs := #[_, _, _, _, _, _, _, _, _]) rfl) ?_
 rintro _ _ ⟨bp, rfl, rfl⟩
 refine Xe (w_store_agg sizeOf79 Y Y (by (simp [Value.oneCell']; done)) Wu (by exact (rfl : _ = (#[.int .i64 (proveT rs q.tb.toNat q.cl.toNat q.lo q.hi).tb, .int .i64 (proveT rs q.tb.toNat q.cl.toNat q.lo q.hi).cl, .int .i64 (proveT rs q.tb.toNat q.cl.toNat q.lo q.hi).lo, .int .i64 (proveT rs q.tb.toNat q.cl.toNat q.lo q.hi).hi, .int .i64 (proveT rs q.tb.toNat q.cl.toNat q.lo q.hi).ct, .int .i64 (proveT rs q.tb.toNat q.cl.toNat q.lo q.hi).fi, .slice qr (proveT rs q.tb.toNat q.cl.toNat q.lo q.hi).rows.length cr, .slice qp (proveT rs q.tb.toNat q.cl.toNat q.lo q.hi).paths.length cp, .slice qt (proveT rs q.tb.toNat q.cl.toNat q.lo q.hi).roots.length ct] : Array Value))) (by first | rfl | (simp; done)) Wb (by exact free_zero _)) ?_
 refine Za Y <| Z0 <| Zn [2, 4] ?_
 refine Zx <| at_nil ?_
 refine Zg <| Zl isAgg35 Y ?_
 refine Zo Wh (p_load_agg (cs := #[_, _, _, _, _, _, _, _, _]) isAgg79 sizeOf79 Y Wb (by rfl)) ?_
 refine Ze (w_buildSlice (vs := [_]) (cs := [_, _, _, _, _, _, _, _, _]) underlying35 sizeOf79 zeroValue79 Y rfl rfl rfl rfl rfl) ?_
 rintro _ _ ⟨gb, rfl, rfl⟩
 refine Ze (w_append_subS (by_ := 120) (sz := 9) underlying35 (rfl : Tryz.prog.info? 79 = some Tryz.t79) rfl rfl rfl rfl Y (rowS_nil 9 79) Y (subS_new 9 gb 1 1 79 (0, 0) [.int .i64 (proveT rs q.tb.toNat q.cl.toNat q.lo q.hi).tb, .int .i64 (proveT rs q.tb.toNat q.cl.toNat q.lo q.hi).cl, .int .i64 (proveT rs q.tb.toNat q.cl.toNat q.lo q.hi).lo, .int .i64 (proveT rs q.tb.toNat q.cl.toNat q.lo q.hi).hi, .int .i64 (proveT rs q.tb.toNat q.cl.toNat q.lo q.hi).ct, .int .i64 (proveT rs q.tb.toNat q.cl.toNat q.lo q.hi).fi, .slice qr (proveT rs q.tb.toNat q.cl.toNat q.lo q.hi).rows.length cr, .slice qp (proveT rs q.tb.toNat q.cl.toNat q.lo q.hi).paths.length cp, .slice qt (proveT rs q.tb.toNat q.cl.toNat q.lo q.hi).roots.length ct] rfl) Wo Wo (by simp [Value.oneCell']) (by omega) (by omega)) ?_
 rintro _ _ ⟨sw5, hrw5, rfl⟩
 obtain ⟨gw5, cw5, rfl⟩ := hrw5.form
 refine Xe (Zs sizeOf35 Y Y rfl (hi := by first | omega | decide | (simp; done))) ?_
 refine Z0 ?_
 refine nx_end0 rfl results25 (by exact ⟨rfl, qr, cr, qp, cp, qt, ct, mem, gw5, cw5, sw5, hR, hrw5, rfl⟩)

set_option maxHeartbeats 1000000 in
theorem make_q (v : Value) (p : Int) (rs : List RowM) (s : List Chunk) (hv : StIs v p rs s) (hs : SortedR rs) (hn : rs.length ≤ 2000) (hok : ∀ r ∈ rs, r.ok) (q : QM) (hq : ValidQ q) (h7 : q.kd ≠ 7) (hl : rs.length ≤ 100) (Tg : TypeId) (zg : Nat × Nat) : Does Tryz.prog 8 #[v, .agg #[.int .i64 q.kd, .int .i64 q.tb, .int .i64 q.cl, .int .i64 q.lo, .int .i64 q.hi, .int .i64 q.bq, .int .i64 q.ot]] [[(1, .cells (kTab.map u32v).toArray Tg zg)], s] (fun w H' => ∃ qr cr qp cp qt ct mem g c so, w = .tuple #[.slice g 1 c, .int .i64 0] ∧ RPIn mem (.agg #[.int .i64 (proveT rs q.tb.toNat q.cl.toNat q.lo q.hi).tb, .int .i64 (proveT rs q.tb.toNat q.cl.toNat q.lo q.hi).cl, .int .i64 (proveT rs q.tb.toNat q.cl.toNat q.lo q.hi).lo, .int .i64 (proveT rs q.tb.toNat q.cl.toNat q.lo q.hi).hi, .int .i64 (proveT rs q.tb.toNat q.cl.toNat q.lo q.hi).ct, .int .i64 (proveT rs q.tb.toNat q.cl.toNat q.lo q.hi).fi, .slice qr (proveT rs q.tb.toNat q.cl.toNat q.lo q.hi).rows.length cr, .slice qp (proveT rs q.tb.toNat q.cl.toNat q.lo q.hi).paths.length cp, .slice qt (proveT rs q.tb.toNat q.cl.toNat q.lo q.hi).roots.length ct]) (proveT rs q.tb.toNat q.cl.toNat q.lo q.hi) ∧ RowS 9 79 (.slice g 1 c) 1 [.int .i64 (proveT rs q.tb.toNat q.cl.toNat q.lo q.hi).tb, .int .i64 (proveT rs q.tb.toNat q.cl.toNat q.lo q.hi).cl, .int .i64 (proveT rs q.tb.toNat q.cl.toNat q.lo q.hi).lo, .int .i64 (proveT rs q.tb.toNat q.cl.toNat q.lo q.hi).hi, .int .i64 (proveT rs q.tb.toNat q.cl.toNat q.lo q.hi).ct, .int .i64 (proveT rs q.tb.toNat q.cl.toNat q.lo q.hi).fi, .slice qr (proveT rs q.tb.toNat q.cl.toNat q.lo q.hi).rows.length cr, .slice qp (proveT rs q.tb.toNat q.cl.toNat q.lo q.hi).paths.length cp, .slice qt (proveT rs q.tb.toNat q.cl.toNat q.lo q.hi).roots.length ct] so ∧ H' = [mem, so, [(1, .cells (kTab.map u32v).toArray Tg zg)], s]) := by
 have hml : maxLen = 9223372036854775807 := rfl
 obtain ⟨sp, mb, es, ck, lm, rfl, hst9⟩ := id hv
 have hcl := hq.2.1
 have hr1 := (@rangeL_sub rs q.tb q.cl.toNat q.lo q.hi).1
 refine spec_enter func8 rfl ntmps8 rfl ?_
 intro u R
 refine Zb [0, 1] ?_
 refine Zq <| Zg <| Ze (w_box Y (cs := #[_]) rfl) ?_
 rintro _ _ ⟨bs, rfl, rfl⟩
 refine Ze (w_box Y (cs := #[.int .i64 q.kd, .int .i64 q.tb, .int .i64 q.cl, .int .i64 q.lo, .int .i64 q.hi, .int .i64 q.bq, .int .i64 q.ot]) (by simp [Value.cells])) ?_
 rintro _ _ ⟨bq, rfl, rfl⟩
 refine Za Y <| Za Y <| Z0 <| Zx <| Zq <| at_block <| Zq <| Zg <| Zl isAgg31 Y ?_
 refine Zv (p_eql_ptr_nil underlying31 Y Y) <| Za Y <| Z0 <| Zx ?_
 refine at_if_bool Y (fun hb0 => ?_) (fun hb0 => ?_)
 ·
  cases hb0
 refine Zq <| Zg <| Zo Wh (p_load_agg (cs := #[_, _, _, _, _, _, _]) isAgg30 sizeOf30 Y Wb (by rfl)) ?_
 refine Xr [_] Y call24 Y rfl (q_valid q) ?_
 refine Zv (p_not_dec Y) <| Za Y <| Z0 <| Zx ?_
 refine at_if_bool Y (fun hb1 => ?_) (fun hb1 => ?_)
 ·
  exfalso; simp [hq] at hb1
 refine at_skip <| nx_block_normal <| Zx <| Zq <| Zg <| Ze (w_alloc zeroValue35 (cs := #[_]) rfl) ?_
 rintro _ _ ⟨bo, rfl, rfl⟩
 refine Z0 <| Zx <| Zq <| Zg <| Zv (p_makeFunc (vs := []) (us := [_, _]) Y Y) ?_
 refine Za Y <| Z0 <| Zn [2, 3, 6, 7] ?_
 refine Zx <| Zq <| Zg <| Zo Wh (p_load_agg (cs := #[_, _, _, _, _, _, _]) isAgg30 sizeOf30 Y Wb (by rfl)) ?_
 refine Xr [_] Y call27 Y rfl (of_q q hq) ?_
 refine Ze (w_alloc zeroValue76 (cs := #[_, _, _, _]) rfl) ?_
 rintro _ _ ⟨bx, rfl, rfl⟩
 refine Xe (w_store_agg sizeOf76 Y Y (by (simp [Value.oneCell']; done)) Wu (by exact (rfl : _ = (#[.int .i64 q.tb, .int .i64 q.cl, .int .i64 q.lo, .int .i64 q.hi] : Array Value))) (by first | rfl | (simp; done)) Wb (by exact free_zero _)) ?_
 refine Z0 <| Zx <| Zq <| Zg <| Zl isAgg31 Y ?_
 refine Zh 0 underlying76 rfl rfl sizeOf3 Y <| Zl isAgg3 Y ?_
 refine Zh 1 underlying76 rfl rfl sizeOf3 Y <| Zl isAgg3 Y ?_
 refine Zh 2 underlying76 rfl rfl sizeOf3 Y <| Zl isAgg3 Y ?_
 refine Zh 3 underlying76 rfl rfl sizeOf3 Y <| Zl isAgg3 Y ?_
 refine Zc [_, _, _, _, _] Y call28 Y rfl (st_rangeI _ p rs s hv q.tb q.cl q.lo q.hi hcl) ?_
 rintro _ _ ⟨_, ⟨s1, h1, rfl⟩, rfl⟩
 obtain ⟨p1, c1, rfl⟩ := h1.form
 refine Za Y <| Z0 <| Zn [3, 6, 7, 8, 9] ?_
 refine Zx <| Zq <| Zq <| Zg <| Zm Y <| Zv (p_len_slice underlying38 Y) <| Zv (p_gtr_nat (n := 100) Y Y) <| Z0 <| Zx ?_
 refine at_if Y (fun hb2 => ?_) (fun hb2 => ?_)
 ·
  exfalso; omega
 refine at_skip <| Zx <| Zq <| Zg <| Zm Y <| Zo Wh (p_load_agg (cs := #[_, _, _, _]) isAgg76 sizeOf76 Y Wb (by rfl)) ?_
 refine Zc [_] Y call25 Y rfl (put_q _ p rs s hv hs hn hok q hq Tg zg bs bo) ?_
 rintro _ _ ⟨_, ⟨rfl, qr, cr, qp, cp, qt, ct, mem, g, c, so, hR, hso, rfl⟩, rfl⟩
 refine Z0 <| Zx <| Zq <| Zq <| Zg <| Zh 0 underlying30 rfl rfl sizeOf3 Y <| Zl isAgg3 Y ?_
 refine Zv (p_eql Y Y) <| Z0 <| Zx ?_
 refine at_if Y (fun hb3 => ?_) (fun hb3 => ?_)
 ·
  exact absurd hb3 h7
 refine at_skip <| Zx <| Zq <| Zg <| Zl isAgg35 Y ?_
 refine Za Y <| Za Y <| Z0 <| Zx <| at_ret ?_
 refine nx_end2 rfl results8 Y Y (by exact ⟨qr, cr, qp, cp, qt, ct, mem, g, c, so, rfl, hR, hso, rfl⟩)

end Go.Proofs.YtkgmgmkbgnkdnaaGreatDoor
